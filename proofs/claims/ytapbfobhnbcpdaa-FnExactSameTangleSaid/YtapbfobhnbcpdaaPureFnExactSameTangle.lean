/- SameTangle of the program answers what the reference's answers, for all texts. Conditions: none. -/
import Derived.Test.YtapbfobhnbcpdaaPFnExactSameTanglex5
namespace Go.Proofs.Ytapbfobhnbcpdaa.Pure
open Go.RowKit Go.Proofs.Ytapbfobhnbcpdaa.PFnExactSameTangle Go.Proofs.YtapbfobhnbcpdaaW.PrintWords Go.Proofs.YtapbfobhnbcpdaaW.PrintLast

namespace W
/-- Byte j of a word may stand there. -/
def okc (s : ByteArray) (j : Int) : Prop := (j % 2 = 0 ∧ 48 ≤ bt s j ∧ bt s j ≤ 57) ∨ (j % 2 = 1 ∧ (bt s j = 108 ∨ bt s j = 114))
instance (s : ByteArray) (j : Int) : Decidable (okc s j) := by unfold okc; infer_instance

theorem wrap1 {i n : Int} (h0 : 0 ≤ i) (h : i < n) (hn : n ≤ 140737488351232) : wrap64 (i + 1) = i + 1 := by
  unfold wrap64
  omega

theorem tmod2 {i : Int} (h0 : 0 ≤ i) : Int.tmod i 2 = i % 2 := Int.tmod_eq_emod_of_nonneg h0

theorem spec_round (k : Nat) (s : ByteArray) (i : Int) (h0 : 0 ≤ i) (hn : s.size ≤ 140737488351232) :
    spec_l03Word.l0 (k + 1) s i = if i < s.size then (if okc s i then spec_l03Word.l0 k s (i + 1) else some false) else some (decide ((s.size : Int) % 2 = 0 ∧ (s.size : Int) ≤ 60)) := by
  simp only [spec_l03Word.l0, tmod2 h0]
  by_cases hlt : i < s.size
  · rw [wrap1 h0 hlt (by omega)]
    by_cases hc : okc s i
    all_goals
      simp only [hc, if_true, if_false]
      unfold okc at hc
      (repeat' split) <;> first | rfl | (exfalso; omega)
  · rw [if_neg hlt, if_neg hlt]
    split <;> simp [*]

theorem impl_round (k : Nat) (s : ByteArray) (i : Int) (h0 : 0 ≤ i) (hn : s.size ≤ 140737488351232) :
    impl_ValidWord.l0 (k + 1) s s.size i = if i < s.size then (if okc s i then impl_ValidWord.l0 k s s.size (i + 1) else some false) else some true := by
  simp only [impl_ValidWord.l0, tmod2 h0]
  by_cases hlt : i < s.size
  · rw [wrap1 h0 hlt (by omega)]
    by_cases hc : okc s i
    all_goals
      simp only [hc, if_true, if_false]
      unfold okc at hc
      (repeat' split) <;> first | rfl | (exfalso; omega)
  · rw [if_neg hlt, if_neg hlt]

theorem spec_loop (s : ByteArray) (hn : s.size ≤ 140737488351232) (d : Nat) : ∀ i : Int, 0 ≤ i → i ≤ s.size → (s.size : Int) - i = d → ∃ b, (∀ k, d < k → spec_l03Word.l0 k s i = some b) ∧ (b = true ↔ (∀ j, i ≤ j → j < s.size → okc s j) ∧ (s.size : Int) % 2 = 0 ∧ (s.size : Int) ≤ 60) := by
  induction d with
  | zero =>
    intro i h0 h1 hd
    refine ⟨decide ((s.size : Int) % 2 = 0 ∧ (s.size : Int) ≤ 60), fun k hk => ?_, ?_⟩
    · obtain ⟨k, rfl⟩ : ∃ m, k = m + 1 := ⟨k - 1, by omega⟩
      rw [spec_round k s i h0 hn, if_neg (by omega)]
    · rw [decide_eq_true_iff]
      exact ⟨fun h => ⟨fun j hj hj' => by omega, h⟩, fun h => h.2⟩
  | succ d ih =>
    intro i h0 h1 hd
    by_cases hc : okc s i
    · obtain ⟨b, hb, hb'⟩ := ih (i + 1) (by omega) (by omega) (by omega)
      refine ⟨b, fun k hk => ?_, ?_⟩
      · obtain ⟨k, rfl⟩ : ∃ m, k = m + 1 := ⟨k - 1, by omega⟩
        rw [spec_round k s i h0 hn, if_pos (by omega), if_pos hc]
        exact hb k (by omega)
      · rw [hb']
        refine ⟨fun h => ⟨fun j hj hj' => ?_, h.2⟩, fun h => ⟨fun j hj hj' => h.1 j (by omega) hj', h.2⟩⟩
        by_cases e : j = i
        · rw [e]; exact hc
        · exact h.1 j (by omega) hj'
    · refine ⟨false, fun k hk => ?_, ?_⟩
      · obtain ⟨k, rfl⟩ : ∃ m, k = m + 1 := ⟨k - 1, by omega⟩
        rw [spec_round k s i h0 hn, if_pos (by omega), if_neg hc]
      · simp only [Bool.false_eq_true, false_iff]
        exact fun h => hc (h.1 i (by omega) (by omega))

theorem impl_loop (s : ByteArray) (hn : s.size ≤ 140737488351232) (d : Nat) : ∀ i : Int, 0 ≤ i → i ≤ s.size → (s.size : Int) - i = d → ∃ b, (∀ k, d < k → impl_ValidWord.l0 k s s.size i = some b) ∧ (b = true ↔ (∀ j, i ≤ j → j < s.size → okc s j)) := by
  induction d with
  | zero =>
    intro i h0 h1 hd
    refine ⟨true, fun k hk => ?_, ?_⟩
    · obtain ⟨k, rfl⟩ : ∃ m, k = m + 1 := ⟨k - 1, by omega⟩
      rw [impl_round k s i h0 hn, if_neg (by omega)]
    · simp only [true_iff]
      exact fun j hj hj' => by omega
  | succ d ih =>
    intro i h0 h1 hd
    by_cases hc : okc s i
    · obtain ⟨b, hb, hb'⟩ := ih (i + 1) (by omega) (by omega) (by omega)
      refine ⟨b, fun k hk => ?_, ?_⟩
      · obtain ⟨k, rfl⟩ : ∃ m, k = m + 1 := ⟨k - 1, by omega⟩
        rw [impl_round k s i h0 hn, if_pos (by omega), if_pos hc]
        exact hb k (by omega)
      · rw [hb']
        refine ⟨fun h j hj hj' => ?_, fun h j hj hj' => h j (by omega) hj'⟩
        by_cases e : j = i
        · rw [e]; exact hc
        · exact h j (by omega) hj'
    · refine ⟨false, fun k hk => ?_, ?_⟩
      · obtain ⟨k, rfl⟩ : ∃ m, k = m + 1 := ⟨k - 1, by omega⟩
        rw [impl_round k s i h0 hn, if_pos (by omega), if_neg hc]
      · simp only [Bool.false_eq_true, false_iff]
        exact fun h => hc (h i (by omega) (by omega))

/-- A word is valid. -/
def Word (s : ByteArray) : Prop := (∀ j : Int, 0 ≤ j → j < s.size → okc s j) ∧ (s.size : Int) % 2 = 0 ∧ (s.size : Int) ≤ 60

theorem spec_word (s : ByteArray) (hn : s.size ≤ 140737488351232) : ∃ b, (∀ k, s.size < k → spec_l03Word.f k s = some b) ∧ (b = true ↔ Word s) :=
  spec_loop s hn s.size 0 (by omega) (by omega) (by omega)

theorem impl_word (s : ByteArray) (hn : s.size ≤ 140737488351232) : ∃ b, (∀ k, s.size + 1 < k → impl_ValidWord.f k s = some b) ∧ (b = true ↔ Word s) := by
  obtain ⟨b, hb, hb'⟩ := impl_loop s hn s.size 0 (by omega) (by omega) (by omega)
  by_cases h : (s.size : Int) % 2 = 0 ∧ (s.size : Int) ≤ 60
  · refine ⟨b, fun k hk => ?_, hb'.trans ⟨fun q => ⟨q, h⟩, fun q => q.1⟩⟩
    obtain ⟨k, rfl⟩ : ∃ m, k = m + 1 := ⟨k - 1, by omega⟩
    unfold impl_ValidWord.f
    have e : (((s.size : Int) % 2) != 0) = false := by rw [h.1]; rfl
    rw [if_neg (by omega), e]
    simp only [impl_ValidWord.j0, Bool.false_eq_true, if_false]
    exact hb k (by omega)
  · refine ⟨false, fun k hk => ?_, by simp only [Bool.false_eq_true, false_iff]; exact fun q => h q.2⟩
    obtain ⟨k, rfl⟩ : ∃ m, k = m + 1 := ⟨k - 1, by omega⟩
    unfold impl_ValidWord.f
    by_cases g : (s.size : Int) > 60
    · rw [if_pos g]
      simp only [impl_ValidWord.j0, if_true]
    · have e : (((s.size : Int) % 2) != 0) = true := bne_iff_ne.mpr fun q => h ⟨q, by omega⟩
      rw [if_neg g, e]
      simp only [impl_ValidWord.j0, if_true]

/-- d turns of a word, from byte i on. -/
def turnsFrom (s : ByteArray) : Nat → Nat → List ByteArray
  | _, 0 => []
  | i, d + 1 => s.extract i (i + 2) :: turnsFrom s (i + 2) d

theorem turnsFrom_size {s : ByteArray} : ∀ {d i : Nat}, i + 2 * d ≤ s.size → ∀ t ∈ turnsFrom s i d, t.size = 2
  | 0, i, _, t, ht => by simp [turnsFrom] at ht
  | d + 1, i, h, t, ht => by
    simp only [turnsFrom, List.mem_cons] at ht
    rcases ht with rfl | ht
    · rw [ByteArray.size_extract]
      omega
    · exact turnsFrom_size (d := d) (i := i + 2) (by omega) t ht

theorem turnsFrom_length (s : ByteArray) : ∀ (d i : Nat), (turnsFrom s i d).length = d
  | 0, _ => rfl
  | d + 1, i => by simp [turnsFrom, turnsFrom_length s d (i + 2)]

/-- The turns of a word. -/
def turns (s : ByteArray) : List ByteArray := turnsFrom s 0 (s.size / 2)

theorem impl_turns_loop (s : ByteArray) (hn : s.size ≤ 1000000) (d : Nat) : ∀ (m : Nat) (acc : List ByteArray), s.size = 2 * (m + d) → acc.length = m → ∀ k, d < k → impl_turnsOf.l0 k s acc ((2 * m : Nat) : Int) = some (acc ++ turnsFrom s (2 * m) d) := by
  induction d with
  | zero =>
    intro m acc hs ha k hk
    obtain ⟨k, rfl⟩ : ∃ q, k = q + 1 := ⟨k - 1, by omega⟩
    simp only [impl_turnsOf.l0]
    rw [if_neg (by omega)]
    simp [turnsFrom]
  | succ d ih =>
    intro m acc hs ha k hk
    obtain ⟨k, rfl⟩ : ∃ q, k = q + 1 := ⟨k - 1, by omega⟩
    have hw : wrap64 (((2 * m : Nat) : Int) + 2) = ((2 * (m + 1) : Nat) : Int) := by unfold wrap64; omega
    simp only [impl_turnsOf.l0, hw]
    rw [if_pos (by omega), if_pos (by omega), if_pos (by omega), if_pos (by omega), if_pos (by omega), ih (m + 1) _ (by omega) (by simp [ha]) k (by omega)]
    simp only [turnsFrom, Int.toNat_natCast, List.append_assoc, List.singleton_append]
    rfl

theorem spec_turns_loop (s : ByteArray) (hn : s.size ≤ 1000000) (d : Nat) : ∀ (m : Nat) (acc : List ByteArray), s.size = 2 * (m + d) → acc.length = m → ∀ k, d < k → spec_l03Turns.l0 k s acc ((2 * m : Nat) : Int) = some (acc ++ turnsFrom s (2 * m) d) := by
  induction d with
  | zero =>
    intro m acc hs ha k hk
    obtain ⟨k, rfl⟩ : ∃ q, k = q + 1 := ⟨k - 1, by omega⟩
    have hw : wrap64 (((2 * m : Nat) : Int) + 1) = ((2 * m + 1 : Nat) : Int) := by unfold wrap64; omega
    simp only [spec_l03Turns.l0, hw]
    rw [if_neg (by omega)]
    simp [turnsFrom]
  | succ d ih =>
    intro m acc hs ha k hk
    obtain ⟨k, rfl⟩ : ∃ q, k = q + 1 := ⟨k - 1, by omega⟩
    have hw : wrap64 (((2 * m : Nat) : Int) + 2) = ((2 * (m + 1) : Nat) : Int) := by unfold wrap64; omega
    have hw1 : wrap64 (((2 * m : Nat) : Int) + 1) = ((2 * m + 1 : Nat) : Int) := by unfold wrap64; omega
    simp only [spec_l03Turns.l0, hw, hw1]
    rw [if_pos (by omega), if_pos (by omega), if_pos (by omega), if_pos (by omega), if_pos (by omega), ih (m + 1) _ (by omega) (by simp [ha]) k (by omega)]
    simp only [turnsFrom, Int.toNat_natCast, List.append_assoc, List.singleton_append]
    rfl

theorem impl_turns (s : ByteArray) (h : Word s) (k : Nat) (hk : s.size < k) : impl_turnsOf.f k s = some (turns s) := by
  have := impl_turns_loop s (by have := h.2.2; omega) (s.size / 2) 0 [] (by have := h.2.1; omega) rfl k (by omega)
  simpa [turns, impl_turnsOf.f] using this

theorem spec_turns (s : ByteArray) (h : Word s) (k : Nat) (hk : s.size < k) : spec_l03Turns.f k s = some (turns s) := by
  have := spec_turns_loop s (by have := h.2.2; omega) (s.size / 2) 0 [] (by have := h.2.1; omega) rfl k (by omega)
  simpa [turns, spec_l03Turns.f] using this

theorem turns_size {s : ByteArray} (h : Word s) : ∀ t ∈ turns s, t.size = 2 := turnsFrom_size (by have := h.2.1; omega)
theorem turns_length {s : ByteArray} : (turns s).length = s.size / 2 := turnsFrom_length s _ 0

/-- The same turn to the other side. -/
def oth (t : ByteArray) : ByteArray := t.extract 0 1 ++ (if bt t 1 = 108 then (⟨#[114]⟩ : ByteArray) else (⟨#[108]⟩ : ByteArray))

theorem size_one (c : UInt8) : (⟨#[c]⟩ : ByteArray).size = 1 := rfl

theorem oth_size {t : ByteArray} (h : t.size = 2) : (oth t).size = 2 := by
  unfold oth
  rw [ByteArray.size_append, ByteArray.size_extract]
  split <;> rw [size_one] <;> omega

theorem impl_oth {t : ByteArray} (h : t.size = 2) : impl_other.f t = some (oth t) := by
  have he : (t.extract 0 1).size = 1 := by rw [ByteArray.size_extract]; omega
  unfold impl_other.f oth
  by_cases hc : bt t 1 = 108 <;> simp [h, he, hc]



theorem spec_oth {t : ByteArray} (h : t.size = 2) : spec_l03Other.f t = some (oth t) := impl_oth h

theorem toList_loop (s : ByteArray) (d : Nat) : ∀ (i : Nat) (r : List UInt8), s.size = i + d → ByteArray.toList.loop s i r = r.reverse ++ s.data.toList.drop i := by
  induction d with
  | zero =>
    intro i r h
    rw [ByteArray.toList.loop, if_neg (by omega), List.drop_of_length_le (by rw [Array.length_toList]; exact Nat.le_of_eq h)]
    simp
  | succ d ih =>
    intro i r h
    have hl : i < s.data.toList.length := by rw [Array.length_toList]; show i < s.size; omega
    rw [ByteArray.toList.loop, if_pos (by omega), ih (i + 1) _ (by omega), List.drop_eq_getElem_cons hl]
    have e : s.get! i = s.data.toList[i] := by
      show s.data[i]! = _
      rw [getElem!_pos s.data i (by simpa using hl)]
      simp
    rw [e]
    simp
theorem toList_eq (s : ByteArray) : s.toList = s.data.toList := by
  unfold ByteArray.toList
  rw [toList_loop s s.size 0 [] (by omega)]
  simp
theorem toList_inj {a b : ByteArray} (h : a.toList = b.toList) : a = b := by
  rw [toList_eq, toList_eq] at h
  exact ByteArray.ext (Array.toList_inj.1 h)

/-! ### Turns that are exchanged and undone, as numbers and sides -/
namespace Tangle
abbrev Tn := Int × Bool
def apart (a b : Tn) : Bool := decide (a.1 - b.1 ≥ 2 ∨ a.1 - b.1 ≤ -2)
def inv (a : Tn) : Tn := (a.1, !a.2)
theorem inv_inv (a : Tn) : inv (inv a) = a := by simp [inv]
theorem apart_comm (a b : Tn) : apart a b = apart b a := by
  unfold apart
  rw [decide_eq_decide]
  omega
theorem apart_inv_left (a b : Tn) : apart (inv a) b = apart a b := rfl
theorem apart_inv_right (a b : Tn) : apart a (inv b) = apart a b := rfl
theorem apart_self (a : Tn) : apart a a = false := by
  unfold apart
  rw [decide_eq_false_iff_not]
  omega
/-- Take away the last turn that undoes t, the turns behind it being exchanged with t (the last turn first in the list). -/
def del (t : Tn) : List Tn → Option (List Tn)
  | [] => none
  | c :: s => if apart c t = true then (del t s).map (c :: ·) else if c = inv t then some s else none
def ins (s : List Tn) (t : Tn) : List Tn := (del t s).getD (t :: s)
theorem del_apart {t c : Tn} {s : List Tn} (h : apart c t = true) : del t (c :: s) = (del t s).map (c :: ·) := by rw [del, if_pos h]
theorem del_hit {t : Tn} {s : List Tn} : del t (inv t :: s) = some s := by rw [del, if_neg (by rw [apart_inv_left, apart_self]; simp), if_pos rfl]
theorem del_miss {t c : Tn} {s : List Tn} (h : apart c t = false) (h2 : c ≠ inv t) : del t (c :: s) = none := by rw [del, if_neg (by rw [h]; simp), if_neg h2]

/-- Exchanging. -/
inductive Ex : List Tn → List Tn → Prop
  | refl (s : List Tn) : Ex s s
  | swap (u v : Tn) (s : List Tn) : apart u v = true → Ex (u :: v :: s) (v :: u :: s)
  | cons (c : Tn) {s r : List Tn} : Ex s r → Ex (c :: s) (c :: r)
  | trans {s r q : List Tn} : Ex s r → Ex r q → Ex s q
theorem Ex.length {s r : List Tn} (h : Ex s r) : s.length = r.length := by
  induction h with
  | refl => rfl
  | swap => rfl
  | cons c _ ih => simp [ih]
  | trans _ _ h1 h2 => exact h1.trans h2

theorem Ex.symm {s r : List Tn} (h : Ex s r) : Ex r s := by
  induction h with
  | refl s => exact Ex.refl s
  | swap u v s h => exact Ex.swap v u s (by rw [apart_comm]; exact h)
  | cons c _ ih => exact Ex.cons c ih
  | trans _ _ h1 h2 => exact Ex.trans h2 h1

/-- Two turns that may be exchanged are taken away in any order. -/
theorem del_del {a b : Tn} (h : apart a b = true) : ∀ (s s1 : List Tn), del a s = some s1 → (del b s = none ∧ del b s1 = none) ∨ ∃ s2 r, del b s = some s2 ∧ del b s1 = some r ∧ del a s2 = some r := by
  intro s
  induction s with
  | nil => intro s1 h1; simp [del] at h1
  | cons c s ih =>
    intro s1 h1
    by_cases ca : apart c a = true
    · rw [del_apart ca] at h1
      obtain ⟨q, hq, rfl⟩ := Option.map_eq_some_iff.1 h1
      by_cases cb : apart c b = true
      · rw [del_apart cb, del_apart cb]
        rcases ih q hq with ⟨h2, h3⟩ | ⟨s2, r, h2, h3, h4⟩
        · exact .inl ⟨by rw [h2]; rfl, by rw [h3]; rfl⟩
        · exact .inr ⟨c :: s2, c :: r, by rw [h2]; rfl, by rw [h3]; rfl, by rw [del_apart ca, h4]; rfl⟩
      · have cb' : apart c b = false := by simpa using cb
        by_cases e : c = inv b
        · subst e
          exact .inr ⟨s, q, del_hit, del_hit, hq⟩
        · exact .inl ⟨del_miss cb' e, del_miss cb' e⟩
    · have ca' : apart c a = false := by simpa using ca
      by_cases e : c = inv a
      · subst e
        rw [del_hit] at h1
        injection h1 with h1
        subst h1
        have cb : apart (inv a) b = true := h
        rw [del_apart cb]
        cases hb : del b s with
        | none => exact .inl ⟨rfl, rfl⟩
        | some r => exact .inr ⟨inv a :: r, r, rfl, rfl, del_hit⟩
      · rw [del_miss ca' e] at h1
        cases h1
theorem del_none {a b : Tn} (h : apart a b = true) {s s1 : List Tn} (h1 : del a s = some s1) : del b s = none ↔ del b s1 = none := by
  rcases del_del h s s1 h1 with ⟨h2, h3⟩ | ⟨s2, r, h2, h3, _⟩
  · rw [h2, h3]
  · rw [h2, h3]; simp

/-- Two turns that may be exchanged come in any order. -/
theorem ins_ins {a b : Tn} (h : apart a b = true) (s : List Tn) : Ex (ins (ins s a) b) (ins (ins s b) a) := by
  have h' : apart b a = true := by rw [apart_comm]; exact h
  unfold ins
  cases ha : del a s with
  | none =>
    cases hb : del b s with
    | none =>
      simp only [Option.getD_none]
      rw [del_apart h, del_apart h', ha, hb]
      exact Ex.swap b a s h'
    | some s2 =>
      simp only [Option.getD_none, Option.getD_some]
      rw [del_apart h, hb, (del_none h' hb).1 ha]
      exact Ex.refl _
  | some s1 =>
    cases hb : del b s with
    | none =>
      simp only [Option.getD_none, Option.getD_some]
      rw [del_apart h', ha, (del_none h ha).1 hb]
      exact Ex.refl _
    | some s2 =>
      simp only [Option.getD_some]
      rcases del_del h s s1 ha with ⟨h2, _⟩ | ⟨s3, r, h2, h3, h4⟩
      · rw [hb] at h2; cases h2
      · rw [hb] at h2
        injection h2 with h2
        subst h2
        rw [h3, h4]
        exact Ex.refl _

theorem del_ex {t : Tn} {s r : List Tn} (h : Ex s r) : (del t s = none ∧ del t r = none) ∨ ∃ s1 r1, del t s = some s1 ∧ del t r = some r1 ∧ Ex s1 r1 := by
  induction h with
  | refl s =>
    cases hs : del t s with
    | none => exact .inl ⟨rfl, rfl⟩
    | some q => exact .inr ⟨q, q, rfl, rfl, Ex.refl q⟩
  | swap u v s h =>
    have h' : apart v u = true := by rw [apart_comm]; exact h
    by_cases ut : apart u t = true
    · by_cases vt : apart v t = true
      · rw [del_apart ut, del_apart vt, del_apart vt, del_apart ut]
        cases hs : del t s with
        | none => exact .inl ⟨rfl, rfl⟩
        | some q => exact .inr ⟨u :: v :: q, v :: u :: q, rfl, rfl, Ex.swap u v q h⟩
      · have vt' : apart v t = false := by simpa using vt
        by_cases e : v = inv t
        · subst e
          rw [del_apart ut, del_hit, del_hit]
          exact .inr ⟨u :: s, u :: s, rfl, rfl, Ex.refl _⟩
        · rw [del_apart ut, del_miss vt' e, del_miss vt' e]
          exact .inl ⟨rfl, rfl⟩
    · have ut' : apart u t = false := by simpa using ut
      by_cases e : u = inv t
      · subst e
        have vt : apart v t = true := h'
        rw [del_hit, del_apart vt, del_hit]
        exact .inr ⟨v :: s, v :: s, rfl, rfl, Ex.refl _⟩
      · rw [del_miss ut' e]
        by_cases vt : apart v t = true
        · rw [del_apart vt, del_miss ut' e]
          exact .inl ⟨rfl, rfl⟩
        · have vt' : apart v t = false := by simpa using vt
          by_cases e2 : v = inv t
          · subst e2
            rw [apart_inv_right] at h
            rw [h] at ut'
            cases ut'
          · rw [del_miss vt' e2]
            exact .inl ⟨rfl, rfl⟩
  | cons c h ih =>
    by_cases ct : apart c t = true
    · rw [del_apart ct, del_apart ct]
      rcases ih with ⟨h1, h2⟩ | ⟨s1, r1, h1, h2, h3⟩
      · exact .inl ⟨by rw [h1]; rfl, by rw [h2]; rfl⟩
      · exact .inr ⟨c :: s1, c :: r1, by rw [h1]; rfl, by rw [h2]; rfl, Ex.cons c h3⟩
    · have ct' : apart c t = false := by simpa using ct
      by_cases e : c = inv t
      · subst e
        rw [del_hit, del_hit]
        exact .inr ⟨_, _, rfl, rfl, h⟩
      · rw [del_miss ct' e, del_miss ct' e]
        exact .inl ⟨rfl, rfl⟩
  | trans h1 h2 ih1 ih2 =>
    rcases ih1 with ⟨a1, a2⟩ | ⟨s1, r1, a1, a2, a3⟩
    · rcases ih2 with ⟨b1, b2⟩ | ⟨s2, r2, b1, b2, b3⟩
      · exact .inl ⟨a1, b2⟩
      · rw [a2] at b1; cases b1
    · rcases ih2 with ⟨b1, b2⟩ | ⟨s2, r2, b1, b2, b3⟩
      · rw [a2] at b1; cases b1
      · rw [a2] at b1
        injection b1 with b1
        subst b1
        exact .inr ⟨s1, r2, a1, b2, Ex.trans a3 b3⟩
theorem ins_ex {t : Tn} {s r : List Tn} (h : Ex s r) : Ex (ins s t) (ins r t) := by
  unfold ins
  rcases del_ex (t := t) h with ⟨h1, h2⟩ | ⟨s1, r1, h1, h2, h3⟩
  · rw [h1, h2]; exact Ex.cons t h
  · rw [h1, h2]; exact h3

/-- No turn in it undoes another one. -/
def Irr : List Tn → Prop
  | [] => True
  | c :: s => Irr s ∧ del c s = none
theorem irr_del {t : Tn} : ∀ {s s1 : List Tn}, Irr s → del t s = some s1 → Irr s1 ∧ del (inv t) s1 = none := by
  intro s
  induction s with
  | nil => intro s1 _ h; simp [del] at h
  | cons c s ih =>
    intro s1 hi h
    by_cases ct : apart c t = true
    · rw [del_apart ct] at h
      obtain ⟨q, hq, rfl⟩ := Option.map_eq_some_iff.1 h
      obtain ⟨h1, h2⟩ := ih hi.1 hq
      refine ⟨⟨h1, (del_none (by rw [apart_comm]; exact ct) hq).1 hi.2⟩, ?_⟩
      rw [del_apart (by rw [apart_inv_right]; exact ct), h2]
      rfl
    · have ct' : apart c t = false := by simpa using ct
      by_cases e : c = inv t
      · subst e
        rw [del_hit] at h
        injection h with h
        subst h
        exact hi
      · rw [del_miss ct' e] at h
        cases h
theorem irr_ins {t : Tn} {s : List Tn} (h : Irr s) : Irr (ins s t) := by
  unfold ins
  cases hd : del t s with
  | none => exact ⟨h, hd⟩
  | some s1 => exact (irr_del h hd).1
theorem del_front {t : Tn} : ∀ {s s1 : List Tn}, del t s = some s1 → Ex (inv t :: s1) s := by
  intro s
  induction s with
  | nil => intro s1 h; simp [del] at h
  | cons c s ih =>
    intro s1 h
    by_cases ct : apart c t = true
    · rw [del_apart ct] at h
      obtain ⟨q, hq, rfl⟩ := Option.map_eq_some_iff.1 h
      exact Ex.trans (Ex.swap _ _ _ (by rw [apart_inv_left, apart_comm]; exact ct)) (Ex.cons c (ih hq))
    · have ct' : apart c t = false := by simpa using ct
      by_cases e : c = inv t
      · subst e
        rw [del_hit] at h
        injection h with h
        subst h
        exact Ex.refl _
      · rw [del_miss ct' e] at h
        cases h
/-- A turn and the one that undoes it. -/
theorem ins_inv {t : Tn} {s : List Tn} (h : Irr s) : Ex (ins (ins s t) (inv t)) s := by
  unfold ins
  cases hd : del t s with
  | none =>
    have e : del (inv t) (t :: s) = some s := by
      have := del_hit (t := inv t) (s := s)
      rwa [inv_inv] at this
    simp only [Option.getD_none]
    rw [e]
    exact Ex.refl _
  | some s1 =>
    simp only [Option.getD_some]
    rw [(irr_del h hd).2]
    exact del_front hd

/-- All turns of a word come, one behind the other. -/
def all (s : List Tn) (w : List Tn) : List Tn := w.foldl ins s
theorem all_ex {w : List Tn} : ∀ {s r : List Tn}, Ex s r → Ex (all s w) (all r w) := by
  induction w with
  | nil => exact fun h => h
  | cons t w ih => exact fun h => ih (ins_ex h)
theorem all_irr {w : List Tn} : ∀ {s : List Tn}, Irr s → Irr (all s w) := by
  induction w with
  | nil => exact fun h => h
  | cons t w ih => exact fun h => ih (irr_ins h)
theorem all_append (s w v : List Tn) : all s (w ++ v) = all (all s w) v := by
  unfold all
  rw [List.foldl_append]
theorem all_past {a : Tn} {w : List Tn} : ∀ {s : List Tn}, (∀ c ∈ w, apart a c = true) → Ex (all (ins s a) w) (ins (all s w) a) := by
  induction w with
  | nil => exact fun _ => Ex.refl _
  | cons t w ih =>
    intro s h
    exact Ex.trans (all_ex (w := w) (ins_ins (h t (by simp)) s)) (ih (s := ins s t) (fun c hc => h c (by simp [hc])))
/-- A turn and the one that undoes it fall away. -/
theorem all_undo {a : Tn} {x y z : List Tn} (h : ∀ c ∈ y, apart a c = true) : Ex (all [] (x ++ a :: (y ++ inv a :: z))) (all [] (x ++ (y ++ z))) := by
  rw [all_append, all_append]
  show Ex (all (ins (all [] x) a) (y ++ inv a :: z)) _
  rw [all_append, all_append]
  refine all_ex (w := z) (Ex.trans (ins_ex (all_past h)) (ins_inv (all_irr (all_irr trivial))))

theorem del_past {t : Tn} {q : List Tn} (h : ∀ c ∈ q, apart c t = true) (s : List Tn) : del t (q ++ s) = (del t s).map (q ++ ·) := by
  induction q with
  | nil => simp
  | cons c q ih =>
    rw [List.cons_append, del_apart (h c (by simp)), ih (fun d hd => h d (by simp [hd]))]
    cases del t s <;> rfl
/-- What is taken away stands there. -/
theorem del_where {t : Tn} : ∀ {s s1 : List Tn}, del t s = some s1 → ∃ p q, s = p ++ inv t :: q ∧ ∀ c ∈ p, apart c t = true := by
  intro s
  induction s with
  | nil => intro s1 h; simp [del] at h
  | cons c s ih =>
    intro s1 h
    by_cases ct : apart c t = true
    · rw [del_apart ct] at h
      obtain ⟨q, hq, rfl⟩ := Option.map_eq_some_iff.1 h
      obtain ⟨p, q', h1, h2⟩ := ih hq
      exact ⟨c :: p, q', by rw [h1]; rfl, fun d hd => (List.mem_cons.1 hd).elim (fun e => by rw [e]; exact ct) (h2 d)⟩
    · have ct' : apart c t = false := by simpa using ct
      by_cases e : c = inv t
      · subst e
        exact ⟨[], s, rfl, fun d hd => by simp at hd⟩
      · rw [del_miss ct' e] at h
        cases h
/-- A word in which no turn undoes another one stays as it is. -/
theorem all_irred {w : List Tn} (h : ∀ x y z a, w = x ++ a :: (y ++ inv a :: z) → ¬ ∀ c ∈ y, apart a c = true) : all [] w = w.reverse := by
  suffices g : ∀ n, n ≤ w.length → all [] (w.take n) = (w.take n).reverse by
    have := g w.length (Nat.le_refl _)
    rwa [List.take_length] at this
  intro n
  induction n with
  | zero => exact fun _ => by simp [all]
  | succ n ih =>
    intro hn
    have e : w.take (n + 1) = w.take n ++ [w[n]'(by omega)] := by rw [List.take_succ_eq_append_getElem (by omega)]
    rw [e, all_append, ih (by omega), List.reverse_append]
    show ins (w.take n).reverse (w[n]'(by omega)) = _
    unfold ins
    cases hd : del (w[n]'(by omega)) (w.take n).reverse with
    | none => rfl
    | some s1 =>
      exfalso
      obtain ⟨p, q, h1, h2⟩ := del_where hd
      have h3 : w.take n = q.reverse ++ (inv (w[n]'(by omega)) :: p.reverse) := by
        have := congrArg List.reverse h1
        rw [List.reverse_reverse] at this
        rw [this]
        simp
      refine h q.reverse p.reverse (w.drop (n + 1)) (inv (w[n]'(by omega))) ?_ (fun c hc => ?_)
      · rw [inv_inv]
        calc w = w.take (n + 1) ++ w.drop (n + 1) := (List.take_append_drop _ _).symm
          _ = _ := by rw [e, h3]; simp
      · rw [apart_inv_left, apart_comm]
        exact h2 c (by simpa using hc)
end Tangle

theorem rd_at {xs : List ByteArray} {j : Nat} (h : j < xs.length) : rdOf ByteArray.empty xs (j : Int) = xs[j] := by
  unfold rdOf
  rw [Int.toNat_natCast, List.getD_eq_getElem?_getD, List.getElem?_eq_getElem h]
  rfl
open Tangle
/-- A turn as a text. -/
def Ok (t : ByteArray) : Prop := t.size = 2 ∧ (48 ≤ bt t 0 ∧ bt t 0 ≤ 57) ∧ (bt t 1 = 108 ∨ bt t 1 = 114)
def tr (t : ByteArray) : Tn := (bt t 0, decide (bt t 1 = 108))
theorem bt_nat {s : ByteArray} {i : Nat} (h : i < s.size) : bt s (i : Int) = (s[i].toNat : Int) := by
  rw [← bt_at s (i : Int) (by simpa using h)]
  rfl
theorem bt_inj {a b : ByteArray} {i : Nat} (ha : i < a.size) (hb : i < b.size) (h : bt a (i : Int) = bt b (i : Int)) : a[i] = b[i] := by
  rw [bt_nat ha, bt_nat hb] at h
  exact UInt8.toNat_inj.1 (by omega)
theorem tr_inj {a b : ByteArray} (ha : Ok a) (hb : Ok b) (h : tr a = tr b) : a = b := by
  obtain ⟨h1, _, h2⟩ := ha
  obtain ⟨g1, _, g2⟩ := hb
  have e0 : bt a 0 = bt b 0 := congrArg Prod.fst h
  have e1 : bt a 1 = bt b 1 := by
    have := congrArg Prod.snd h
    simp only [tr, decide_eq_decide] at this
    omega
  refine ByteArray.ext_getElem (by omega) fun i hi hi' => ?_
  have hc : i = 0 ∨ i = 1 := by omega
  rcases hc with rfl | rfl
  · exact bt_inj hi hi' e0
  · exact bt_inj hi hi' e1
theorem bt_ext0 {s : ByteArray} {i : Nat} (h : i + 2 ≤ s.size) : bt (s.extract i (i + 2)) 0 = bt s (i : Int) := by
  have hz : (s.extract i (i + 2)).size = 2 := by rw [ByteArray.size_extract]; omega
  have h1 := bt_nat (s := s.extract i (i + 2)) (i := 0) (by omega)
  rw [ByteArray.getElem_extract] at h1
  rw [show ((0 : Int)) = ((0 : Nat) : Int) from rfl, h1, bt_nat (by omega)]
  rfl
theorem bt_ext1 {s : ByteArray} {i : Nat} (h : i + 2 ≤ s.size) : bt (s.extract i (i + 2)) 1 = bt s ((i + 1 : Nat) : Int) := by
  have hz : (s.extract i (i + 2)).size = 2 := by rw [ByteArray.size_extract]; omega
  have h1 := bt_nat (s := s.extract i (i + 2)) (i := 1) (by omega)
  rw [ByteArray.getElem_extract] at h1
  rw [show ((1 : Int)) = ((1 : Nat) : Int) from rfl, h1, bt_nat (by omega)]
theorem turnsFrom_ok {s : ByteArray} (h : Word s) : ∀ {d m : Nat}, 2 * m + 2 * d ≤ s.size → ∀ t ∈ turnsFrom s (2 * m) d, Ok t
  | 0, m, _, t, ht => by simp [turnsFrom] at ht
  | d + 1, m, hd, t, ht => by
    simp only [turnsFrom, List.mem_cons] at ht
    rcases ht with rfl | ht
    · have h0 := h.1 ((2 * m : Nat) : Int) (by omega) (by omega)
      have h1 := h.1 ((2 * m + 1 : Nat) : Int) (by omega) (by omega)
      unfold okc at h0 h1
      refine ⟨by rw [ByteArray.size_extract]; omega, ?_, ?_⟩
      · rw [bt_ext0 (by omega)]; omega
      · rw [bt_ext1 (by omega)]; omega
    · exact turnsFrom_ok h (d := d) (m := m + 1) (by omega) t (by rwa [show 2 * (m + 1) = 2 * m + 2 from by omega])
theorem turns_ok {s : ByteArray} (h : Word s) : ∀ t ∈ turns s, Ok t := by
  have := turnsFrom_ok h (d := s.size / 2) (m := 0) (by omega)
  simpa [turns] using this
theorem bt_oth0 {t : ByteArray} (h : t.size = 2) : bt (oth t) 0 = bt t 0 := by
  have he : (t.extract 0 1).size = 1 := by rw [ByteArray.size_extract]; omega
  have hz := oth_size h
  rw [show ((0 : Int)) = ((0 : Nat) : Int) from rfl, bt_nat (s := oth t) (by omega), bt_nat (by omega)]
  unfold oth
  rw [ByteArray.getElem_append_left (by omega), ByteArray.getElem_extract]
theorem bt_oth1 {t : ByteArray} (h : t.size = 2) : bt (oth t) 1 = if bt t 1 = 108 then 114 else 108 := by
  have he : (t.extract 0 1).size = 1 := by rw [ByteArray.size_extract]; omega
  have hz := oth_size h
  have h1 := bt_nat (s := oth t) (i := 1) (by omega)
  rw [show bt (oth t) 1 = bt (oth t) ((1 : Nat) : Int) from rfl, h1]
  unfold oth
  rw [ByteArray.getElem_append_right (by omega)]
  simp only [he]
  split <;> rfl
theorem ok_oth {t : ByteArray} (h : Ok t) : Ok (oth t) := by
  obtain ⟨h1, h2, h3⟩ := h
  refine ⟨oth_size h1, by rw [bt_oth0 h1]; exact h2, ?_⟩
  rw [bt_oth1 h1]
  split <;> simp
theorem tr_oth {t : ByteArray} (h : Ok t) : tr (oth t) = inv (tr t) := by
  obtain ⟨h1, h2, h3⟩ := h
  unfold tr inv
  rw [bt_oth0 h1, bt_oth1 h1]
  by_cases c : bt t 1 = 108 <;> simp [c]
theorem exch_some {a b : ByteArray} (ha : Ok a) (hb : Ok b) : impl_exchange.f a b = some (apart (tr a) (tr b)) := by
  obtain ⟨h1, h2, _⟩ := ha
  obtain ⟨g1, g2, _⟩ := hb
  have w1 : wrap64 (bt a 0) = bt a 0 := by unfold wrap64; omega
  have w2 : wrap64 (bt b 0) = bt b 0 := by unfold wrap64; omega
  have w3 : wrap64 (bt a 0 - bt b 0) = bt a 0 - bt b 0 := by unfold wrap64; omega
  unfold impl_exchange.f
  rw [w1, w2, w3, if_pos (by omega), if_pos (by omega)]
  unfold apart tr
  by_cases c : bt a 0 - bt b 0 ≥ 2
  · rw [if_pos c]; simp [c]
  · rw [if_neg c]; simp [c]
theorem apart_some {a b : ByteArray} (ha : Ok a) (hb : Ok b) : spec_l03Apart.f a b = some (apart (tr a) (tr b)) := exch_some ha hb
theorem undo_some {a b : ByteArray} (ha : Ok a) (hb : Ok b) : spec_l03Undo.f a b = some (decide (tr a = inv (tr b))) := by
  obtain ⟨h1, h2, h3⟩ := ha
  obtain ⟨g1, g2, g3⟩ := hb
  unfold spec_l03Undo.f
  rw [if_pos (by omega), if_pos (by omega)]
  by_cases c : bt a 0 = bt b 0
  · rw [if_pos c, if_pos (by omega), if_pos (by omega)]
    unfold tr inv
    rcases h3 with h3 | h3 <;> rcases g3 with g3 | g3 <;> simp [c, h3, g3]
  · rw [if_neg c]
    simp [tr, inv, c]
/-- What stands so far, the last turn first. -/
def st (l : List ByteArray) : List Tn := (l.map tr).reverse
theorem st_append (a b : List ByteArray) : st (a ++ b) = st b ++ st a := by simp [st]
theorem st_one (t : ByteArray) : st [t] = [tr t] := rfl

theorem j2_app (out : List ByteArray) (t : ByteArray) (ht : Ok t) (hl : out.length ≤ 1000000) (l : List ByteArray) (n i : Int) (m : Nat) (hlt : m < out.length) (hne : ¬ out[m].toList = (oth t).toList) (k : Nat) :
    impl_cleared.j2 (k + 1) out t (m : Int) l n i = impl_cleared.l0 k (out ++ [t]) l n (wrap64 (i + 1)) := by
  simp only [impl_cleared.j2]
  rw [if_pos (by omega), if_pos (by omega), if_pos (by omega), impl_oth ht.1]
  rw [Option.bind_some]
  rw [rd_at hlt]
  rw [if_neg hne]
  rw [if_pos (by omega)]

theorem scan (out : List ByteArray) (t : ByteArray) (ho : ∀ c ∈ out, Ok c) (ht : Ok t) (hl : out.length ≤ 1000000) (l : List ByteArray) (n i : Int) (m : Nat) :
    m ≤ out.length → (∀ c ∈ out.drop m, apart (tr c) (tr t) = true) → ∃ new : List ByteArray, (∀ c ∈ new, Ok c) ∧ new.length ≤ out.length + 1 ∧ st new = ins (st out) (tr t) ∧
      ∀ r, Ev (fun k => impl_cleared.l0 k new l n (wrap64 (i + 1))) r → Ev (fun k => impl_cleared.l1 k out t ((m : Int) - 1) l n i) r := by
  induction m with
  | zero =>
    intro hm hq
    refine ⟨out ++ [t], fun c hc => ?_, by simp, ?_, fun r hr => ?_⟩
    · rcases List.mem_append.1 hc with hc | hc
      · exact ho c hc
      · rw [List.mem_singleton.1 hc]; exact ht
    · have hd : del (tr t) (st out) = none := by
        have := del_past (t := tr t) (q := st out) (fun c hc => by
          obtain ⟨d, hd, rfl⟩ := List.mem_map.1 (List.mem_reverse.1 hc)
          exact hq d (by simpa using hd)) []
        rw [List.append_nil] at this
        rw [this]
        rfl
      rw [st_append, st_one]
      unfold ins
      rw [hd]
      rfl
    · refine Ev.step (f := fun k => impl_cleared.j2 k out t (-1) l n i) (fun k => ?_) (Ev.step (fun k => ?_) hr)
      · simp only [impl_cleared.l1]
        rw [if_neg (by omega)]
        rfl
      · simp only [impl_cleared.j2]
        rw [if_neg (by omega), if_pos (by omega)]
  | succ m ih =>
    intro hm hq
    have hlt : m < out.length := by omega
    have hok := ho _ (List.getElem_mem hlt)
    have ex := exch_some hok ht
    have e1 : ((m + 1 : Nat) : Int) - 1 = (m : Int) := by omega
    have hw : wrap64 ((m : Int) - 1) = (m : Int) - 1 := by unfold wrap64; omega
    have hw2 : wrap64 ((m : Int) + 1) = ((m + 1 : Nat) : Int) := by unfold wrap64; omega
    have hdrop : out.drop m = out[m] :: out.drop (m + 1) := List.drop_eq_getElem_cons hlt
    rw [e1]
    by_cases c : apart (tr out[m]) (tr t) = true
    · obtain ⟨new, h1, h2, h3, h4⟩ := ih (by omega) (fun d hd => by
        rw [hdrop] at hd
        rcases List.mem_cons.1 hd with rfl | hd
        · exact c
        · exact hq d hd)
      refine ⟨new, h1, h2, h3, fun r hr => Ev.step (fun k => ?_) (h4 r hr)⟩
      simp only [impl_cleared.l1, rd_at hlt, ex, hw, Option.bind_some]
      rw [if_pos (by omega), if_pos (by omega), if_pos (by omega), if_pos c]
    · have c' : apart (tr out[m]) (tr t) = false := by simpa using c
      have hsplit : st out = st (out.drop (m + 1)) ++ tr out[m] :: st (out.take m) := by
        have h1 : out.take m ++ out[m] :: out.drop (m + 1) = out := by rw [← hdrop, List.take_append_drop]
        have h2 := congrArg st h1
        rw [st_append] at h2
        rw [← h2]
        simp only [st, List.map_cons, List.reverse_cons, List.append_assoc, List.singleton_append]
      have hpast := del_past (t := tr t) (q := st (out.drop (m + 1))) (fun c hc => by
          obtain ⟨d, hd, rfl⟩ := List.mem_map.1 (List.mem_reverse.1 hc)
          exact hq d hd) (tr out[m] :: st (out.take m))
      by_cases e : tr out[m] = inv (tr t)
      · have heq : out[m] = oth t := tr_inj hok (ok_oth ht) (by rw [tr_oth ht]; exact e)
        refine ⟨out.take m ++ out.drop (m + 1), fun d hd => ?_, by simp; omega, ?_, fun r hr => ?_⟩
        · rcases List.mem_append.1 hd with hd | hd
          · exact ho d (List.mem_of_mem_take hd)
          · exact ho d (List.mem_of_mem_drop hd)
        · unfold ins
          rw [hsplit, hpast, e, del_hit, st_append]
          rfl
        · refine Ev.step (f := fun k => impl_cleared.j2 k out t (m : Int) l n i) (fun k => ?_) (Ev.step (fun k => ?_) hr)
          · simp only [impl_cleared.l1, rd_at hlt, ex, Option.bind_some]
            rw [if_pos (by omega), if_pos (by omega), if_pos (by omega), if_neg c]
          · simp only [impl_cleared.j2, rd_at hlt, impl_oth ht.1, hw2, Option.bind_some, slices_Clone_string_string.f, Int.toNat_natCast]
            rw [if_pos (by omega), if_pos (by omega), if_pos (by omega), if_pos (by rw [heq]), if_pos (by omega), if_pos (by rw [List.length_take]; omega)]
            simp only [Option.bind_some]
            rw [if_pos (by omega), if_pos (by omega), if_pos (by rw [List.length_take, List.length_drop]; omega)]
      · have hne : ¬ out[m].toList = (oth t).toList := fun q => e (by rw [toList_inj q, tr_oth ht])
        refine ⟨out ++ [t], fun c hc => ?_, by simp, ?_, fun r hr => ?_⟩
        · rcases List.mem_append.1 hc with hc | hc
          · exact ho c hc
          · rw [List.mem_singleton.1 hc]; exact ht
        · rw [st_append, st_one]
          unfold ins
          conv => rhs; rw [hsplit, hpast, del_miss c' e]
          simp only [Option.map_none, Option.getD_none, ← hsplit]
          rfl
        · refine Ev.step (f := fun k => impl_cleared.j2 k out t (m : Int) l n i) (fun k => ?_) (Ev.step (fun k => ?_) hr)
          · simp only [impl_cleared.l1, rd_at hlt, ex, Option.bind_some]
            rw [if_pos (by omega), if_pos (by omega), if_pos (by omega), if_neg c]
          · exact j2_app out t ht hl l n i m hlt hne k

theorem cleared_loop (l : List ByteArray) (hw : ∀ c ∈ l, Ok c) (hl : l.length ≤ 10000) (d : Nat) : ∀ (i : Nat) (out : List ByteArray), l.length = i + d → out.length ≤ i → (∀ c ∈ out, Ok c) →
    ∃ r, (∀ c ∈ r, Ok c) ∧ r.length ≤ l.length ∧ st r = all (st out) ((l.drop i).map tr) ∧ Ev (fun k => impl_cleared.l0 k out l l.length (i : Int)) r := by
  induction d with
  | zero =>
    intro i out hi ho hok
    refine ⟨out, hok, by omega, by rw [List.drop_of_length_le (by omega)]; rfl, Ev.step (f := fun _ => some out) (fun k => ?_) (Ev.now _)⟩
    simp only [impl_cleared.l0]
    rw [if_neg (by omega)]
  | succ d ih =>
    intro i out hi ho hok
    have hlt : i < l.length := by omega
    have hw1 : wrap64 ((i : Int) + 1) = ((i + 1 : Nat) : Int) := by unfold wrap64; omega
    have hw2 : wrap64 ((out.length : Int) - 1) = (out.length : Int) - 1 := by unfold wrap64; omega
    obtain ⟨new, h1, h2, h3, h4⟩ := scan out l[i] hok (hw _ (List.getElem_mem hlt)) (by omega) l l.length (i : Int) out.length (Nat.le_refl _) (fun c hc => by rw [List.drop_length] at hc; simp at hc)
    obtain ⟨r, g1, g2, g3, g4⟩ := ih (i + 1) new (by omega) (by omega) h1
    refine ⟨r, g1, g2, ?_, Ev.step (fun k => ?_) (h4 r (by rw [hw1]; exact g4))⟩
    · rw [g3, h3, List.drop_eq_getElem_cons hlt]
      rfl
    · simp only [impl_cleared.l0, rd_at hlt, hw2]
      rw [if_pos (by omega), if_pos (by omega), if_pos (by omega)]

theorem cleared (l : List ByteArray) (hw : ∀ c ∈ l, Ok c) (hl : l.length ≤ 10000) : ∃ r, r.length ≤ l.length ∧ st r = all [] (l.map tr) ∧ Ev (fun k => impl_cleared.f k l) r := by
  obtain ⟨r, _, h0, h1, h2⟩ := cleared_loop l hw hl l.length 0 [] (by omega) (by simp) (fun c hc => by simp at hc)
  exact ⟨r, h0, by simpa [st] using h1, h2⟩

/-- Turn j of a list. -/
def at' (l : List ByteArray) (j : Nat) : Tn := tr (l.getD j ByteArray.empty)
theorem at_get {l : List ByteArray} {j : Nat} (h : j < l.length) : at' l j = tr l[j] := by
  unfold at'
  rw [List.getD_eq_getElem?_getD, List.getElem?_eq_getElem h]
  rfl
/-- Turns i and j undo each other, those between them being exchanged with i. -/
def Pair (l : List ByteArray) (i j : Nat) : Prop := at' l i = inv (at' l j) ∧ ∀ m, i < m → m < j → apart (at' l i) (at' l m) = true

theorem partner_loop (l : List ByteArray) (hw : ∀ c ∈ l, Ok c) (hl : l.length ≤ 10000) (i : Nat) (hi : i < l.length) (d : Nat) : ∀ (j : Nat), l.length = j + d → i < j → (∀ m, i < m → m < j → apart (at' l i) (at' l m) = true) →
    ∃ r : Int, Ev (fun k => spec_l03Partner.l0 k l (i : Int) (j : Int)) r ∧ ((r = -1 ∧ ∀ q, j ≤ q → q < l.length → ¬ Pair l i q) ∨ ∃ q : Nat, r = (q : Int) ∧ j ≤ q ∧ q < l.length ∧ Pair l i q) := by
  induction d with
  | zero =>
    intro j hj hij hm
    refine ⟨-1, Ev.step (f := fun _ => some (-1)) (fun k => ?_) (Ev.now _), .inl ⟨rfl, fun q h1 h2 => by omega⟩⟩
    simp only [spec_l03Partner.l0]
    rw [if_neg (by omega)]
  | succ d ih =>
    intro j hj hij hm
    have hlt : j < l.length := by omega
    have hw1 : wrap64 ((j : Int) + 1) = ((j + 1 : Nat) : Int) := by unfold wrap64; omega
    have o1 := hw _ (List.getElem_mem hi)
    have o2 := hw _ (List.getElem_mem hlt)
    have a1 := at_get hi
    have a2 := at_get hlt
    by_cases e : tr l[i] = inv (tr l[j])
    · refine ⟨(j : Int), Ev.step (f := fun _ => some (j : Int)) (fun k => ?_) (Ev.now _), .inr ⟨j, rfl, Nat.le_refl _, hlt, by rw [a1, a2]; exact e, hm⟩⟩
      simp only [spec_l03Partner.l0, rd_at hi, rd_at hlt, undo_some o1 o2, Option.bind_some]
      rw [if_pos (by omega), if_pos (by omega), if_pos (by omega), if_pos (by omega), if_pos (decide_eq_true e)]
    · by_cases c : apart (tr l[i]) (tr l[j]) = true
      · obtain ⟨r, h1, h2⟩ := ih (j + 1) (by omega) (by omega) (fun m g1 g2 => by
          by_cases g : m = j
          · rw [g, a1, a2]; exact c
          · exact hm m g1 (by omega))
        refine ⟨r, Ev.step (fun k => ?_) h1, ?_⟩
        · simp only [spec_l03Partner.l0, rd_at hi, rd_at hlt, undo_some o1 o2, apart_some o1 o2, hw1, Option.bind_some]
          rw [if_pos (by omega), if_pos (by omega), if_pos (by omega), if_pos (by omega), if_neg (by simpa using e), if_pos c]
        · rcases h2 with ⟨h2, h3⟩ | ⟨q, h2, h3, h4⟩
          · refine .inl ⟨h2, fun q g1 g2 => ?_⟩
            by_cases g : q = j
            · rw [g]
              exact fun p => e (by rw [← a1, ← a2]; exact p.1)
            · exact h3 q (by omega) g2
          · exact .inr ⟨q, h2, by omega, h4⟩
      · refine ⟨-1, Ev.step (f := fun _ => some (-1)) (fun k => ?_) (Ev.now _), .inl ⟨rfl, fun q g1 g2 p => ?_⟩⟩
        · simp only [spec_l03Partner.l0, rd_at hi, rd_at hlt, undo_some o1 o2, apart_some o1 o2, Option.bind_some]
          rw [if_pos (by omega), if_pos (by omega), if_pos (by omega), if_pos (by omega), if_neg (by simpa using e), if_neg c]
        · by_cases g : q = j
          · subst g
            exact e (by rw [← a1, ← a2]; exact p.1)
          · exact c (by rw [← a1, ← a2]; exact p.2 j hij (by omega))

theorem partner (l : List ByteArray) (hw : ∀ c ∈ l, Ok c) (hl : l.length ≤ 10000) (i : Nat) (hi : i < l.length) :
    ∃ r : Int, Ev (fun k => spec_l03Partner.f k l (i : Int)) r ∧ ((r = -1 ∧ ∀ q, i < q → q < l.length → ¬ Pair l i q) ∨ ∃ q : Nat, r = (q : Int) ∧ i < q ∧ q < l.length ∧ Pair l i q) := by
  have hw1 : wrap64 ((i : Int) + 1) = ((i + 1 : Nat) : Int) := by unfold wrap64; omega
  obtain ⟨r, h1, h2⟩ := partner_loop l hw hl i hi (l.length - (i + 1)) (i + 1) (by omega) (by omega) (fun m g1 g2 => by omega)
  exact ⟨r, Ev.congr (fun k => by unfold spec_l03Partner.f; rw [hw1]) h1, h2⟩

theorem split_at {l : List ByteArray} {i q : Nat} (h1 : i < q) (h2 : q < l.length) : l = l.take i ++ l[i] :: ((l.take q).drop (i + 1) ++ l[q] :: l.drop (q + 1)) := by
  have h3 : i < (l.take q).length := by rw [List.length_take]; omega
  have e1 : (l.take q).take i ++ (l.take q)[i] :: (l.take q).drop (i + 1) = l.take q := by rw [← List.drop_eq_getElem_cons h3, List.take_append_drop]
  rw [List.take_take, Nat.min_eq_left (by omega), List.getElem_take] at e1
  have e2 : l.take q ++ l[q] :: l.drop (q + 1) = l := by rw [← List.drop_eq_getElem_cons h2, List.take_append_drop]
  conv => lhs; rw [← e2, ← e1]
  simp only [List.append_assoc, List.cons_append]

theorem reduced_from (n : Nat) : ∀ (d : Nat) (l : List ByteArray) (i : Nat), (∀ c ∈ l, Ok c) → l.length ≤ 10000 → l.length ≤ n → l.length = i + d → (∀ a, a < i → ∀ q, a < q → q < l.length → ¬ Pair l a q) →
    ∃ r : List ByteArray, r.length ≤ l.length ∧ Ev (fun k => spec_l03Reduced.l0 k l (i : Int)) r ∧ ∃ s, Ex s (all [] (l.map tr)) ∧ s = st r := by
  induction n with
  | zero =>
    intro d l i hw hl hn hd hno
    have : l = [] := List.length_eq_zero_iff.1 (by omega)
    subst this
    refine ⟨[], Nat.le_refl _, Ev.step (f := fun _ => some []) (fun k => ?_) (Ev.now _), [], Ex.refl _, rfl⟩
    simp only [spec_l03Reduced.l0]
    rw [if_neg (by simp)]
  | succ n ihn =>
    intro d
    induction d with
    | zero =>
      intro l i hw hl hn hd hno
      refine ⟨l, Nat.le_refl _, Ev.step (f := fun _ => some l) (fun k => ?_) (Ev.now _), _, Ex.refl _, ?_⟩
      · simp only [spec_l03Reduced.l0]
        rw [if_neg (by omega)]
      · refine all_irred fun x y z a e p => ?_
        have hlen : (l.map tr).length = l.length := List.length_map _
        have hx : x.length < l.length := by rw [← hlen, e]; simp
        have hq : x.length + 1 + y.length < l.length := by rw [← hlen, e]; simp; omega
        have hat : ∀ m (h : m < l.length), (l.map tr)[m]? = some (at' l m) := fun m h => by rw [List.getElem?_map, List.getElem?_eq_getElem h, at_get h]; rfl
        have e1 : at' l x.length = a := by
          have := hat x.length hx
          rw [e, List.getElem?_append_right (Nat.le_refl _), Nat.sub_self] at this
          simpa using this.symm
        have e2 : at' l (x.length + 1 + y.length) = inv a := by
          have := hat _ hq
          rw [e, List.getElem?_append_right (by omega), show x.length + 1 + y.length - x.length = y.length + 1 from by omega, List.getElem?_cons_succ, List.getElem?_append_right (Nat.le_refl _), Nat.sub_self] at this
          simpa using this.symm
        refine hno x.length (by omega) (x.length + 1 + y.length) (by omega) hq ⟨by rw [e1, e2, inv_inv], fun m g1 g2 => ?_⟩
        have := hat m (by omega)
        rw [e, List.getElem?_append_right (by omega), show m - x.length = (m - x.length - 1) + 1 from by omega, List.getElem?_cons_succ, List.getElem?_append_left (by omega)] at this
        rw [e1]
        exact p _ (List.mem_of_getElem? this)
    | succ d ihd =>
      intro l i hw hl hn hd hno
      have hi : i < l.length := by omega
      have hw1 : wrap64 ((i : Int) + 1) = ((i + 1 : Nat) : Int) := by unfold wrap64; omega
      obtain ⟨r, h1, h2⟩ := partner l hw hl i hi
      rcases h2 with ⟨h2, h3⟩ | ⟨q, h2, h3, h4, h5⟩
      · obtain ⟨r', g0, g1, g2⟩ := ihd l (i + 1) hw hl hn (by omega) (fun a ha => by
          by_cases e : a = i
          · rw [e]; exact h3
          · exact hno a (by omega))
        refine ⟨r', g0, Ev.step (fun k => by simp only [spec_l03Reduced.l0]; rw [if_pos (by omega)]) (Ev.bind h1 ?_), g2⟩
        simp only [if_neg (show ¬ r > 0 from by omega), hw1]
        exact g1
      · have hw2 : wrap64 ((q : Int) + 1) = ((q + 1 : Nat) : Int) := by unfold wrap64; omega
        have hsp := split_at h3 h4
        have hlen : (l.take i ++ ((l.take q).drop (i + 1) ++ l.drop (q + 1))).length ≤ n := by simp; omega
        obtain ⟨r', g0, g1, s, g2, g3⟩ := ihn _ (l.take i ++ ((l.take q).drop (i + 1) ++ l.drop (q + 1))) 0 (fun c hc => by
          simp only [List.mem_append] at hc
          rcases hc with hc | hc | hc
          · exact hw c (List.mem_of_mem_take hc)
          · exact hw c (List.mem_of_mem_take (List.mem_of_mem_drop hc))
          · exact hw c (List.mem_of_mem_drop hc)) (by simp; omega) hlen (by rw [Nat.zero_add]) (fun a ha => by omega)
        refine ⟨r', Nat.le_trans g0 (by simp; omega), Ev.step (fun k => by simp only [spec_l03Reduced.l0]; rw [if_pos (by omega)]) (Ev.bind h1 ?_), s, ?_, g3⟩
        · subst h2
          refine Ev.congr (fun k => ?_) g1
          rw [if_pos (by omega), hw1, hw2]
          simp only [Option.bind_some, Int.toNat_natCast]
          rw [if_pos (by omega), if_pos (by omega), if_pos (by simp; omega), if_pos (by omega), if_pos (by omega), if_pos (by omega), if_pos (by simp; omega), if_pos (by omega), if_pos (by omega), if_pos (by simp; omega)]
          rw [List.nil_append, List.append_assoc]
          rfl
        · refine Ex.trans g2 ?_
          have hu := all_undo (a := tr l[i]) (x := (l.take i).map tr) (y := ((l.take q).drop (i + 1)).map tr) (z := (l.drop (q + 1)).map tr) (fun c hc => by
            obtain ⟨m, hm⟩ := List.getElem?_of_mem hc
            rw [List.getElem?_map] at hm
            obtain ⟨u, hu, rfl⟩ := Option.map_eq_some_iff.1 hm
            rw [List.getElem?_drop, List.getElem?_take] at hu
            split at hu
            · have := h5.2 (i + 1 + m) (by omega) (by omega)
              rw [at_get hi, at_get (by omega)] at this
              rw [List.getElem?_eq_getElem (by omega)] at hu
              injection hu with hu
              rw [← hu]
              exact this
            · cases hu)
          have hv : inv (tr l[i]) = tr l[q] := by
            have := h5.1
            rw [at_get hi, at_get h4] at this
            rw [this, inv_inv]
          rw [hv] at hu
          have e1 := congrArg (List.map tr) hsp
          simp only [List.map_append, List.map_cons] at e1
          rw [e1]
          simp only [List.map_append]
          exact Ex.symm hu

theorem reduced (l : List ByteArray) (hw : ∀ c ∈ l, Ok c) (hl : l.length ≤ 10000) : ∃ r : List ByteArray, r.length = (all [] (l.map tr)).length ∧ Ev (fun k => spec_l03Reduced.f k l) r := by
  obtain ⟨r, _, h1, s, h2, h3⟩ := reduced_from l.length l.length l 0 hw hl (Nat.le_refl _) (by omega) (fun a ha => by omega)
  refine ⟨r, ?_, h1⟩
  rw [← h2.length, h3]
  simp [st]
/-- Both leave as many turns. -/
theorem both_left (l : List ByteArray) (hw : ∀ c ∈ l, Ok c) (hl : l.length ≤ 10000) : ∃ r q : List ByteArray, r.length = q.length ∧ r.length ≤ l.length ∧ Ev (fun k => spec_l03Reduced.f k l) r ∧ Ev (fun k => impl_cleared.f k l) q := by
  obtain ⟨r, h1, h2⟩ := reduced l hw hl
  obtain ⟨q, h0, h3, h4⟩ := cleared l hw hl
  have e : q.length = (all [] (l.map tr)).length := by rw [← h3]; simp [st]
  exact ⟨r, q, by omega, by omega, h2, h4⟩


/-- An own row is turned round in place. -/
theorem reverse_loop (d : Nat) : ∀ (x : List ByteArray) (i j : Nat), x.length ≤ 1000000 → i + j + 1 = x.length → j ≤ i + d → ∃ r, Ev (fun k => slices_Reverse_string_string.l0 k x (i : Int) (j : Int)) r ∧ r.length = x.length ∧
    ∀ m, m < x.length → r[m]? = if i ≤ m ∧ m ≤ j then x[x.length - 1 - m]? else x[m]? := by
  induction d using Nat.strongRecOn with
  | _ d ih =>
    intro x i j hx hij hd
    by_cases hlt : i < j
    · have h1 : i < x.length := by omega
      have h2 : j < x.length := by omega
      have hw1 : wrap64 ((i : Int) + 1) = ((i + 1 : Nat) : Int) := by unfold wrap64; omega
      have hw2 : wrap64 ((j : Int) - 1) = ((j - 1 : Nat) : Int) := by unfold wrap64; omega
      obtain ⟨r, g1, g2, g3⟩ := ih (d - 2) (by omega) ((x.set i x[j]).set j x[i]) (i + 1) (j - 1) (by simpa using hx) (by simp; omega) (by omega)
      refine ⟨r, Ev.step (fun k => ?_) g1, by rw [g2]; simp, fun m hm => ?_⟩
      · simp only [slices_Reverse_string_string.l0, rd_at h1, rd_at h2, hw1, hw2, Int.toNat_natCast]
        rw [if_pos (by omega), if_pos (by omega), if_pos (by omega), if_pos (by omega), if_pos (by omega)]
      · rw [g3 m (by simpa using hm)]
        simp only [List.length_set]
        by_cases a : i + 1 ≤ m ∧ m ≤ j - 1
        · rw [if_pos a, if_pos (by omega), List.getElem?_set_ne (by omega), List.getElem?_set_ne (by omega)]
        · rw [if_neg a]
          by_cases b : i ≤ m ∧ m ≤ j
          · rw [if_pos b]
            have hc : m = i ∨ m = j := by omega
            rcases hc with rfl | rfl
            · rw [List.getElem?_set_ne (by omega), List.getElem?_set_self h1, show x.length - 1 - m = j from by omega, List.getElem?_eq_getElem h2]
            · rw [List.getElem?_set_self (by simpa using h2), show x.length - 1 - m = i from by omega, List.getElem?_eq_getElem h1]
          · rw [if_neg b, List.getElem?_set_ne (by omega), List.getElem?_set_ne (by omega)]
    · refine ⟨x, Ev.step (f := fun _ => some x) (fun k => ?_) (Ev.now _), rfl, fun m hm => ?_⟩
      · simp only [slices_Reverse_string_string.l0]
        rw [if_neg (by omega)]
      · by_cases b : i ≤ m ∧ m ≤ j
        · rw [if_pos b, show x.length - 1 - m = m from by omega]
        · rw [if_neg b]
theorem reversed (x : List ByteArray) (hx : x.length ≤ 1000000) : Ev (fun k => slices_Reverse_string_string.f k x) x.reverse := by
  by_cases h0 : x.length = 0
  · have : x = [] := List.length_eq_zero_iff.1 h0
    subst this
    refine Ev.congr (f := fun k => slices_Reverse_string_string.l0 k [] 0 (-1)) (fun k => by unfold slices_Reverse_string_string.f; rw [show wrap64 ((([] : List ByteArray).length : Int) - 1) = -1 from by unfold wrap64; simp]) (Ev.step (f := fun _ => some []) (fun k => ?_) (Ev.now _))
    simp only [slices_Reverse_string_string.l0]
    rw [if_neg (by omega)]
  · have hw : wrap64 ((x.length : Int) - 1) = ((x.length - 1 : Nat) : Int) := by unfold wrap64; omega
    obtain ⟨r, h1, h2, h3⟩ := reverse_loop x.length x 0 (x.length - 1) hx (by omega) (by omega)
    have e : r = x.reverse := by
      refine List.ext_getElem? fun m => ?_
      by_cases hm : m < x.length
      · rw [h3 m hm, if_pos (by omega), List.getElem?_reverse hm]
      · rw [List.getElem?_eq_none (by omega), List.getElem?_eq_none (by simp; omega)]
    rw [← e]
    exact Ev.congr (fun k => by unfold slices_Reverse_string_string.f; rw [hw]; rfl) h1

theorem impl_back (b : List ByteArray) (hb : ∀ c ∈ b, Ok c) (hl : b.length ≤ 1000000) (q : Bool × Int) (d : Nat) : ∀ (j : Nat) (a : List ByteArray), b.length = j + d → a.length ≤ 1000000 + j →
    Ev (fun k => (impl_cleared.f k (a ++ (b.drop j).map oth)).bind fun t => some (((t.length : Int) == 0), 0)) q → Ev (fun k => impl_SameTangle.l0 k a b b.length (j : Int)) q := by
  induction d with
  | zero =>
    intro j a hj ha h
    rw [List.drop_of_length_le (by omega), List.map_nil, List.append_nil] at h
    refine Ev.step (fun k => ?_) h
    simp only [impl_SameTangle.l0]
    rw [if_neg (by omega)]
  | succ d ih =>
    intro j a hj ha h
    have hlt : j < b.length := by omega
    have hw : wrap64 ((j : Int) + 1) = ((j + 1 : Nat) : Int) := by unfold wrap64; omega
    refine Ev.step (fun k => ?_) (ih (j + 1) (a ++ [oth b[j]]) (by omega) (by simp; omega) ?_)
    · simp only [impl_SameTangle.l0, rd_at hlt, impl_oth (hb _ (List.getElem_mem hlt)).1, hw, Option.bind_some]
      rw [if_pos (by omega), if_pos (by omega), if_pos (by omega), if_pos (by omega)]
    · rw [List.drop_eq_getElem_cons hlt, List.map_cons] at h
      rw [List.append_assoc]
      exact h

theorem spec_back (b : List ByteArray) (hb : ∀ c ∈ b, Ok c) (hl : b.length ≤ 1000000) (q : Bool × Int) (j : Nat) : ∀ (a : List ByteArray), j ≤ b.length → a.length + j ≤ 2000000 →
    Ev (fun k => (spec_l03Reduced.f k (a ++ (b.take j).reverse.map oth)).bind fun t => some (((t.length : Int) == 0), 0)) q → Ev (fun k => spec_SameTangle.l0 k a b ((j : Int) - 1)) q := by
  induction j with
  | zero =>
    intro a hj ha h
    rw [List.take_zero, List.reverse_nil, List.map_nil, List.append_nil] at h
    refine Ev.step (fun k => ?_) h
    simp only [spec_SameTangle.l0]
    rw [if_neg (by omega)]
  | succ j ih =>
    intro a hj ha h
    have hlt : j < b.length := by omega
    have e1 : ((j + 1 : Nat) : Int) - 1 = (j : Int) := by omega
    have hw : wrap64 ((j : Int) - 1) = (j : Int) - 1 := by unfold wrap64; omega
    rw [e1]
    refine Ev.step (fun k => ?_) (ih (a ++ [oth b[j]]) (by omega) (by simp; omega) ?_)
    · simp only [spec_SameTangle.l0, rd_at hlt, spec_oth (hb _ (List.getElem_mem hlt)).1, hw, Option.bind_some]
      rw [if_pos (by omega), if_pos (by omega), if_pos (by omega), if_pos (by omega)]
    · rw [List.take_succ_eq_append_getElem hlt, List.reverse_append, List.reverse_singleton, List.map_append, ← List.append_assoc] at h
      exact h

end W
open W

theorem FnExactSameTangle : laws_FnExactSameTangle.Pure := by
  intro s u hn hm
  refine Ev.rounds ?_
  by_cases hbig : (s.size : Int) > 1048576
  · refine Ev.congr (f := fun _ => some true) (fun k => ?_) (Ev.now _)
    unfold laws_FnExactSameTangle.f
    rw [if_pos hbig]
  · by_cases hbig2 : (u.size : Int) > 1048576
    · refine Ev.congr (f := fun _ => some true) (fun k => ?_) (Ev.now _)
      unfold laws_FnExactSameTangle.f
      rw [if_neg hbig, if_pos hbig2]
    · have wordE : ∀ v : ByteArray, v.size ≤ 140737488351232 → ∃ c : Bool, Ev (fun k => spec_l03Word.f k v) c ∧ Ev (fun k => impl_ValidWord.f k v) c ∧ (c = true ↔ Word v) := by
        intro v hv
        obtain ⟨b, hb, hb'⟩ := spec_word v hv
        obtain ⟨c, hc, hc'⟩ := impl_word v hv
        have e : c = b := by rw [Bool.eq_iff_iff, hb', hc']
        subst e
        exact ⟨c, ⟨v.size + 1, fun k hk => hb k (by omega)⟩, ⟨v.size + 2, fun k hk => hc k (by omega)⟩, hb'⟩
      obtain ⟨c, e1, e2, e3⟩ := wordE s hn
      obtain ⟨b, f1, f2, f3⟩ := wordE u hm
      suffices g : ∃ q : Bool × Int, Ev (fun k => spec_SameTangle.f k s u) q ∧ Ev (fun k => impl_SameTangle.f k s u) q by
        obtain ⟨q, q1, q2⟩ := g
        simp only [laws_FnExactSameTangle.f, if_neg hbig, if_neg hbig2]
        refine Ev.bind q1 (Ev.bind q2 ?_)
        simp only [bne_self_eq_false, Bool.false_eq_true, if_false, if_true]
        exact Ev.now _
      simp only [spec_SameTangle.f, impl_SameTangle.f]
      by_cases hs : Word s
      · have c1 : c = true := e3.2 hs
        subst c1
        by_cases hu : Word u
        · have b1 : b = true := f3.2 hu
          subst b1
          have hls := turns_length (s := s)
          have hlu := turns_length (s := u)
          have h6 := hs.2.2
          have h7 := hu.2.2
          have hok : ∀ c ∈ turns s ++ (turns u).reverse.map oth, Ok c := fun c hc => by
            rcases List.mem_append.1 hc with hc | hc
            · exact turns_ok hs c hc
            · obtain ⟨d, hd, rfl⟩ := List.mem_map.1 hc
              exact ok_oth (turns_ok hu d (List.mem_reverse.1 hd))
          obtain ⟨r, q, h1, h0, h2, h3⟩ := both_left (turns s ++ (turns u).reverse.map oth) hok (by simp; omega)
          refine ⟨(((r.length : Int) == 0), 0), ?_, ?_⟩
          · refine Ev.bind e1 ?_
            simp only [if_true]
            refine Ev.bind f1 ?_
            refine Ev.step (f := fun k => (spec_l03Turns.f k s).bind fun t143 => ((spec_l03Turns.f k u).bind fun t146 => (spec_SameTangle.l0 k t143 t146 (wrap64 ((t146.length : Int) - 1))))) (fun k => by simp [spec_SameTangle.j0]) ?_
            refine Ev.bind (⟨s.size + 1, fun k hk => spec_turns s hs k (by omega)⟩) (Ev.bind (⟨u.size + 1, fun k hk => spec_turns u hu k (by omega)⟩) ?_)
            have hw : wrap64 (((turns u).length : Int) - 1) = ((turns u).length : Int) - 1 := by unfold wrap64; omega
            rw [hw]
            refine spec_back (turns u) (turns_ok hu) (by omega) _ (turns u).length (turns s) (Nat.le_refl _) (by omega) ?_
            rw [List.take_length]
            exact Ev.bind h2 (Ev.now _)
          · refine Ev.bind e2 ?_
            simp only [if_true]
            refine Ev.bind f2 ?_
            refine Ev.step (f := fun k => (impl_turnsOf.f k s).bind fun t197 => ((impl_turnsOf.f k u).bind fun t200 => ((slices_Reverse_string_string.f k t200).bind fun t203 => (impl_SameTangle.l0 k t197 t203 (t200.length : Int) 0)))) (fun k => by simp [impl_SameTangle.j0]) ?_
            refine Ev.bind (⟨s.size + 1, fun k hk => impl_turns s hs k (by omega)⟩) (Ev.bind (⟨u.size + 1, fun k hk => impl_turns u hu k (by omega)⟩) (Ev.bind (reversed (turns u) (by omega)) ?_))
            have hb := impl_back (turns u).reverse (fun c hc => turns_ok hu c (List.mem_reverse.1 hc)) (by simp; omega) (((r.length : Int) == 0), 0) (turns u).length 0 (turns s) (by simp) (by omega) (by
              rw [List.drop_zero, h1]
              exact Ev.bind h3 (Ev.now _))
            rw [List.length_reverse] at hb
            exact hb
        · have b1 : b = false := by
            cases b
            · rfl
            · exact absurd (f3.1 rfl) hu
          subst b1
          refine ⟨(false, 1), ?_, ?_⟩
          · refine Ev.bind e1 ?_
            simp only [if_true]
            refine Ev.bind f1 (Ev.step (f := fun _ => some (false, 1)) (fun k => by simp [spec_SameTangle.j0]) (Ev.now _))
          · refine Ev.bind e2 ?_
            simp only [if_true]
            refine Ev.bind f2 (Ev.step (f := fun _ => some (false, 1)) (fun k => by simp [impl_SameTangle.j0]) (Ev.now _))
      · have c1 : c = false := by
          cases c
          · rfl
          · exact absurd (e3.1 rfl) hs
        subst c1
        refine ⟨(false, 1), ?_, ?_⟩
        · refine Ev.bind e1 ?_
          simp only [Bool.false_eq_true, if_false]
          exact Ev.step (f := fun _ => some (false, 1)) (fun k => by simp [spec_SameTangle.j0]) (Ev.now _)
        · refine Ev.bind e2 ?_
          simp only [Bool.false_eq_true, if_false]
          exact Ev.step (f := fun _ => some (false, 1)) (fun k => by simp [impl_SameTangle.j0]) (Ev.now _)

end Go.Proofs.Ytapbfobhnbcpdaa.Pure
