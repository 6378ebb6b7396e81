/- SameBoats of the program answers what the reference's answers, for all arguments. Conditions: none. -/
import Derived.Test.YtcollbifdfhfoaaPFnExactSameBoatsx3
namespace Go.Proofs.Ytcollbifdfhfoaa.Pure
open Go.RowKit Go.Proofs.Ytcollbifdfhfoaa.PFnExactSameBoats Go.Proofs.YtcollbifdfhfoaaW.PrintWords Go.Proofs.YtcollbifdfhfoaaW.PrintLast

/-- From some number of rounds on it answers a truth value: whether P holds. -/
def EvB (g : Nat → Option Bool) (P : Prop) : Prop := ∃ b, Ev g b ∧ (b = true ↔ P)
theorem EvB.iff {g : Nat → Option Bool} {P Q : Prop} (h : EvB g P) (e : P ↔ Q) : EvB g Q := by
  obtain ⟨b, h1, h2⟩ := h
  exact ⟨b, h1, h2.trans e⟩
theorem EvB.step {g f : Nat → Option Bool} {P : Prop} (h : ∀ k, g (k + 1) = f k) (k : EvB f P) : EvB g P := by
  obtain ⟨b, h1, h2⟩ := k
  exact ⟨b, Ev.step h h1, h2⟩
theorem EvB.congr {g f : Nat → Option Bool} {P : Prop} (h : ∀ k, g k = f k) (k : EvB f P) : EvB g P := by
  obtain ⟨b, h1, h2⟩ := k
  exact ⟨b, Ev.congr h h1, h2⟩
theorem EvB.yes {P : Prop} (h : P) : EvB (fun _ => some true) P := ⟨true, Ev.now _, by simp [h]⟩
theorem EvB.no {P : Prop} (h : ¬ P) : EvB (fun _ => some false) P := ⟨false, Ev.now _, by simp [h]⟩
theorem EvB.bind {α : Type} {g : Nat → Option α} {f : Nat → α → Option Bool} {a : α} {P : Prop} (h : Ev g a) (k : EvB (fun n => f n a) P) : EvB (fun n => (g n).bind (f n)) P := by
  obtain ⟨b, h1, h2⟩ := k
  exact ⟨b, Ev.bind h h1, h2⟩
theorem EvB.same {g f : Nat → Option Bool} {P : Prop} (h : EvB g P) (k : EvB f P) : ∃ b, Ev g b ∧ Ev f b ∧ (b = true ↔ P) := by
  obtain ⟨b, h1, h2⟩ := h
  obtain ⟨c, h3, h4⟩ := k
  have e : c = b := by rw [Bool.eq_iff_iff, h4, h2]
  subst e
  exact ⟨c, h1, h3, h2⟩

theorem rdBoat {xs : List S38} {j : Nat} (h : j < xs.length) : rd_T38 xs (j : Int) = xs[j] := by
  unfold rd_T38
  rw [Int.toNat_natCast, List.getD_eq_getElem?_getD, List.getElem?_eq_getElem h]
  rfl
theorem rdBoat' {xs : List S34} {j : Nat} (h : j < xs.length) : rd_T34 xs (j : Int) = xs[j] := by
  unfold rd_T34
  rw [Int.toNat_natCast, List.getD_eq_getElem?_getD, List.getElem?_eq_getElem h]
  rfl
def convBoat (x : S34) : S38 := ⟨⟨x.f0.f0, x.f0.f1⟩, x.f1, x.f2, x.f3, x.f4⟩
theorem toBoat_loop (l : List S34) (hl : l.length ≤ 1048576) (d : Nat) : ∀ (j : Nat) (x : List S38), l.length = j + d → x.length = l.length → (∀ i, i < j → x[i]? = (l[i]?).map convBoat) → ∀ k, d < k → laws_toBoatS.l0 k l x (j : Int) = some (l.map convBoat) := by
  induction d with
  | zero =>
    intro j x hj hx hi k hk
    obtain ⟨k, rfl⟩ : ∃ q, k = q + 1 := ⟨k - 1, by omega⟩
    simp only [laws_toBoatS.l0]
    rw [if_neg (by omega)]
    refine congrArg some (List.ext_getElem? fun i => ?_)
    rw [List.getElem?_map]
    by_cases h : i < j
    · exact hi i h
    · rw [List.getElem?_eq_none (by omega), List.getElem?_eq_none (by omega)]
      rfl
  | succ d ih =>
    intro j x hj hx hi k hk
    obtain ⟨k, rfl⟩ : ∃ q, k = q + 1 := ⟨k - 1, by omega⟩
    have hlt : j < l.length := by omega
    have hw : wrap64 ((j : Int) + 1) = ((j + 1 : Nat) : Int) := by unfold wrap64; omega
    simp only [laws_toBoatS.l0, hw]
    rw [if_pos (by omega), if_pos (by omega), rdBoat' hlt]
    simp only [laws_toBoat.f, laws_toPlace.f, Option.bind_some]
    rw [if_pos (by omega), Int.toNat_natCast]
    refine ih (j + 1) _ (by omega) (by rw [List.length_set]; exact hx) (fun i h => ?_) k (by omega)
    by_cases e : i = j
    · subst e
      rw [List.getElem?_set_self (by omega), List.getElem?_eq_getElem hlt]
      rfl
    · rw [List.getElem?_set_ne (by omega)]
      exact hi i (by omega)
theorem toBoat (l : List S34) (hl : l.length ≤ 1048576) : Ev (fun k => laws_toBoatS.f k l) (l.map convBoat) := by
  refine ⟨l.length + 1, fun k hk => ?_⟩
  show laws_toBoatS.f k l = _
  unfold laws_toBoatS.f
  rw [if_pos (by omega), Int.toNat_natCast, if_pos (by omega)]
  exact toBoat_loop l hl l.length 0 _ (by omega) (by simp) (fun i h => by omega) k (by omega)
theorem szBoat (l : List S34) (h : l.length ≤ 9223372036854775807) (a : Int) (ha : 0 ≤ a) (ha2 : a ≤ 1048576) : laws_szBoatS.f l a = some (if a < l.length then -1 else a - l.length) := by
  have hw : wrap64 (a - (l.length : Int)) = a - l.length := by unfold wrap64; omega
  unfold laws_szBoatS.f
  rw [hw]
  by_cases c : a < l.length
  · rw [if_pos (by omega), if_pos c]
  · rw [if_neg (by omega), if_neg c]
theorem eqBoat_loop (a : List S38) (ha : a.length ≤ 9223372036854775000) (d : Nat) : ∀ (j : Nat), a.length = j + d → ∀ k, d < k → laws_eqBoatS.l0 k a a (j : Int) = some true := by
  induction d with
  | zero =>
    intro j hj k hk
    obtain ⟨k, rfl⟩ : ∃ q, k = q + 1 := ⟨k - 1, by omega⟩
    simp only [laws_eqBoatS.l0]
    rw [if_neg (by omega)]
  | succ d ih =>
    intro j hj k hk
    obtain ⟨k, rfl⟩ : ∃ q, k = q + 1 := ⟨k - 1, by omega⟩
    have hw : wrap64 ((j : Int) + 1) = ((j + 1 : Nat) : Int) := by unfold wrap64; omega
    simp only [laws_eqBoatS.l0, hw, laws_eqBoat.f, laws_eqPlace.f, if_true, Option.bind_some]
    rw [if_pos (by omega), if_pos (by omega), if_pos (by omega)]
    exact ih (j + 1) (by omega) k (by omega)
theorem eqBoat (a : List S38) (ha : a.length ≤ 9223372036854775000) : Ev (fun k => laws_eqBoatS.f k a a) true := by
  refine ⟨a.length + 1, fun k hk => ?_⟩
  show laws_eqBoatS.f k a a = _
  unfold laws_eqBoatS.f
  rw [if_pos rfl]
  exact eqBoat_loop a ha a.length 0 (by omega) k (by omega)

theorem S38_ext {x y : S38} : x = y ↔ x.f0.f0 = y.f0.f0 ∧ x.f0.f1 = y.f0.f1 ∧ x.f1 = y.f1 ∧ x.f2 = y.f2 ∧ x.f3 = y.f3 ∧ x.f4 = y.f4 := by
  constructor
  · rintro rfl; simp
  · rintro ⟨h0, h1, h2, h3, h4, h5⟩
    cases x with | mk p _ _ _ _ => cases p; cases y with | mk q _ _ _ _ => cases q; simp only [] at h0 h1 h2 h3 h4 h5; subst h0 h1 h2 h3 h4 h5; rfl
theorem ne_bool (x y : S38) : (((!(x.f0.f0 == y.f0.f0) || (!(x.f0.f1 == y.f0.f1))) || (!(x.f1 == y.f1) || (!(x.f2 == y.f2) || (!(x.f3 == y.f3) || (!(x.f4 == y.f4)))))) = true) ↔ x ≠ y := by
  rw [ne_eq, S38_ext]
  by_cases h0 : x.f0.f0 = y.f0.f0 <;> by_cases h1 : x.f0.f1 = y.f0.f1 <;> by_cases h2 : x.f1 = y.f1 <;> by_cases h3 : x.f2 = y.f2 <;> by_cases h4 : x.f3 = y.f3 <;> by_cases h5 : x.f4 = y.f4 <;> simp [h0, h1, h2, h3, h4, h5]
theorem spec_same (a b : List S38) (hl : a.length ≤ 1048576) (he : a.length = b.length) (d : Nat) : ∀ i : Nat, a.length = i + d → EvB (fun k => spec_SameBoats.l0 k a b (i : Int)) (a.drop i = b.drop i) := by
  induction d with
  | zero =>
    intro i hi
    have e : ¬ (i : Int) < a.length := by omega
    refine EvB.step (f := fun _ => some true) (fun k => ?_) (EvB.yes (by rw [List.drop_of_length_le (by omega), List.drop_of_length_le (by omega)]))
    simp only [spec_SameBoats.l0]
    rw [if_neg e]
  | succ d ih =>
    intro i hi
    have ha : i < a.length := by omega
    have hb : i < b.length := by omega
    have hw : wrap64 ((i : Int) + 1) = ((i + 1 : Nat) : Int) := by unfold wrap64; omega
    by_cases e : a[i] = b[i]
    · refine EvB.step (fun k => ?_) ((ih (i + 1) (by omega)).iff ⟨fun h => ?_, fun h => ?_⟩)
      · simp only [spec_SameBoats.l0, rdBoat ha, rdBoat hb, hw]
        rw [if_pos (by omega), if_pos (by omega), if_pos (by omega), if_neg (by rw [ne_bool]; exact fun h => h e)]
      · rw [List.drop_eq_getElem_cons ha, List.drop_eq_getElem_cons hb, e, h]
      · rw [List.drop_eq_getElem_cons ha, List.drop_eq_getElem_cons hb] at h
        injection h
    · refine EvB.step (f := fun _ => some false) (fun k => ?_) (EvB.no fun h => ?_)
      · simp only [spec_SameBoats.l0, rdBoat ha, rdBoat hb, hw]
        rw [if_pos (by omega), if_pos (by omega), if_pos (by omega), if_pos (by rw [ne_bool]; exact e)]
      · rw [List.drop_eq_getElem_cons ha, List.drop_eq_getElem_cons hb] at h
        injection h with h _
        exact e h
theorem spec_same_all (a b : List S38) (hl : a.length ≤ 1048576) : EvB (fun k => spec_SameBoats.f k a b) (a = b) := by
  by_cases he : a.length = b.length
  · refine EvB.congr (f := fun k => spec_SameBoats.l0 k a b ((0 : Nat) : Int)) (fun k => ?_) ((spec_same a b hl he a.length 0 (by omega)).iff (by simp))
    unfold spec_SameBoats.f
    rw [if_pos (by omega)]
    rfl
  · refine EvB.congr (f := fun _ => some false) (fun k => ?_) (EvB.no fun h => he (by rw [h]))
    unfold spec_SameBoats.f
    rw [if_neg (by omega)]
theorem impl_same (a b : List S38) (hl : a.length ≤ 1048576) (he : a.length = b.length) (d : Nat) : ∀ i : Nat, a.length = i + d → EvB (fun k => impl_SameBoats.l0 k a b (a.length : Int) (i : Int)) (a.drop i = b.drop i) := by
  induction d with
  | zero =>
    intro i hi
    have e : ¬ (i : Int) < a.length := by omega
    refine EvB.step (f := fun _ => some true) (fun k => ?_) (EvB.yes (by rw [List.drop_of_length_le (by omega), List.drop_of_length_le (by omega)]))
    simp only [impl_SameBoats.l0]
    rw [if_neg e]
  | succ d ih =>
    intro i hi
    have ha : i < a.length := by omega
    have hb : i < b.length := by omega
    have hw : wrap64 ((i : Int) + 1) = ((i + 1 : Nat) : Int) := by unfold wrap64; omega
    by_cases e : a[i] = b[i]
    · refine EvB.step (fun k => ?_) ((ih (i + 1) (by omega)).iff ⟨fun h => ?_, fun h => ?_⟩)
      · simp only [impl_SameBoats.l0, rdBoat ha, rdBoat hb, hw]
        rw [if_pos (by omega), if_pos (by omega), if_pos (by omega), if_pos (by omega), if_neg (by rw [ne_bool]; exact fun h => h e)]
      · rw [List.drop_eq_getElem_cons ha, List.drop_eq_getElem_cons hb, e, h]
      · rw [List.drop_eq_getElem_cons ha, List.drop_eq_getElem_cons hb] at h
        injection h
    · refine EvB.step (f := fun _ => some false) (fun k => ?_) (EvB.no fun h => ?_)
      · simp only [impl_SameBoats.l0, rdBoat ha, rdBoat hb, hw]
        rw [if_pos (by omega), if_pos (by omega), if_pos (by omega), if_pos (by omega), if_pos (by rw [ne_bool]; exact e)]
      · rw [List.drop_eq_getElem_cons ha, List.drop_eq_getElem_cons hb] at h
        injection h with h _
        exact e h
theorem impl_same_all (a b : List S38) (hl : a.length ≤ 1048576) : EvB (fun k => impl_SameBoats.f k a b) (a = b) := by
  by_cases he : a.length = b.length
  · refine EvB.congr (f := fun k => impl_SameBoats.l0 k a b (a.length : Int) ((0 : Nat) : Int)) (fun k => ?_) ((impl_same a b hl he a.length 0 (by omega)).iff (by simp))
    unfold impl_SameBoats.f
    rw [if_pos (by omega)]
    rfl
  · refine EvB.congr (f := fun _ => some false) (fun k => ?_) (EvB.no fun h => he (by rw [h]))
    unfold impl_SameBoats.f
    rw [if_neg (by omega)]

def FnExactSameBoatsPure : Prop := ∀ (l0 : List S34) (l1 : List S34), l0.length ≤ 9223372036854775807 → (∀ x ∈ l0, (Lit.int .i8 x.f0.f0).wf = true ∧ (Lit.int .i8 x.f0.f1).wf = true ∧ (Lit.int .i8 x.f1).wf = true ∧ (Lit.int .i8 x.f2).wf = true ∧ (Lit.int .i8 x.f3).wf = true ∧ (Lit.int .i8 x.f4).wf = true) → l1.length ≤ 9223372036854775807 → (∀ x ∈ l1, (Lit.int .i8 x.f0.f0).wf = true ∧ (Lit.int .i8 x.f0.f1).wf = true ∧ (Lit.int .i8 x.f1).wf = true ∧ (Lit.int .i8 x.f2).wf = true ∧ (Lit.int .i8 x.f3).wf = true ∧ (Lit.int .i8 x.f4).wf = true) → ∃ k, laws_FnExactSameBoats.f k l0 l1 = some true
theorem FnExactSameBoats : FnExactSameBoatsPure := by
  intro a b ha _ hb _
  refine Ev.rounds ?_
  have hsz := szBoat a ha 1048576 (by omega) (by omega)
  by_cases hlen : (1048576 : Int) < a.length
  · refine Ev.congr (f := fun _ => some true) (fun k => ?_) (Ev.now _)
    unfold laws_FnExactSameBoats.f
    rw [hsz, if_pos hlen]
    rfl
  · have hsz2 := szBoat b hb (1048576 - a.length) (by omega) (by omega)
    by_cases hlen2 : (1048576 : Int) - a.length < b.length
    · refine Ev.congr (f := fun _ => some true) (fun k => ?_) (Ev.now _)
      unfold laws_FnExactSameBoats.f
      rw [hsz, if_neg hlen]
      simp only [Option.bind_some]
      rw [if_neg (show ¬ ((1048576 : Int) - a.length < 0) from by omega), hsz2, if_pos hlen2]
      rfl
    · have hl2 : a.length ≤ 1048576 := by omega
      have hm2 : b.length ≤ 1048576 := by omega
      have hl3 : (a.map convBoat).length ≤ 1048576 := by rw [List.length_map]; exact hl2
      have hm3 : (b.map convBoat).length ≤ 1048576 := by rw [List.length_map]; exact hm2
      have ta := toBoat a hl2
      have tb := toBoat b hm2
      obtain ⟨c, h1, h2, _⟩ := EvB.same (spec_same_all (a.map convBoat) (b.map convBoat) hl3) (impl_same_all (a.map convBoat) (b.map convBoat) hl3)
      have ea := eqBoat (a.map convBoat) (by omega)
      have eb := eqBoat (b.map convBoat) (by omega)
      simp only [laws_FnExactSameBoats.f, hsz, if_neg hlen, Option.bind_some, if_neg (show ¬ ((1048576 : Int) - a.length < 0) from by omega), hsz2, if_neg hlen2, if_neg (show ¬ ((1048576 : Int) - a.length - b.length < 0) from by omega)]
      refine Ev.bind ta (Ev.bind tb (Ev.bind h1 (Ev.bind ta (Ev.bind tb (Ev.bind h2 ?_)))))
      simp only [bne_self_eq_false, Bool.false_eq_true, if_false]
      refine Ev.bind ta (Ev.bind ea ?_)
      simp only [if_true]
      refine Ev.bind tb (Ev.bind eb ?_)
      exact Ev.now _

end Go.Proofs.Ytcollbifdfhfoaa.Pure
