/- ValidWord of the program answers what the reference's answers, for every text. Conditions: none. -/
import Derived.Test.YtapbfobhnbcpdaaPFnExactValidWordx1
namespace Go.Proofs.Ytapbfobhnbcpdaa.Pure
open Go.RowKit Go.Proofs.Ytapbfobhnbcpdaa.PFnExactValidWord Go.Proofs.YtapbfobhnbcpdaaW.PrintWords Go.Proofs.YtapbfobhnbcpdaaW.PrintLast
namespace W

/-- Byte j of a word may stand there. -/
def okc (s : ByteArray) (j : Int) : Prop := (j % 2 = 0 ∧ 48 ≤ bt s j ∧ bt s j ≤ 57) ∨ (j % 2 = 1 ∧ (bt s j = 108 ∨ bt s j = 114))
instance (s : ByteArray) (j : Int) : Decidable (okc s j) := by unfold okc; infer_instance

theorem wrap1 {i n : Int} (h0 : 0 ≤ i) (h : i < n) (hn : n ≤ 140737488351232) : wrap64 (i + 1) = i + 1 := by
  unfold wrap64
  omega

theorem tmod2 {i : Int} (h0 : 0 ≤ i) : Int.tmod i 2 = i % 2 := Int.tmod_eq_emod_of_nonneg h0

theorem spec_round (k : Nat) (s : ByteArray) (i : Int) (h0 : 0 ≤ i) (hn : s.size ≤ 140737488351232) :
    spec_l03Word.l0 (k + 1) s i = if i < s.size then (if okc s i then spec_l03Word.l0 k s (i + 1) else some false) else some (decide ((s.size : Int) % 2 = 0 ∧ (s.size : Int) ≤ 60)) := by
  simp only [spec_l03Word.l0, tmod2 h0]
  by_cases hlt : i < s.size
  · rw [wrap1 h0 hlt (by omega)]
    by_cases hc : okc s i
    all_goals
      simp only [hc, if_true, if_false]
      unfold okc at hc
      (repeat' split) <;> first | rfl | (exfalso; omega)
  · rw [if_neg hlt, if_neg hlt]
    split <;> simp [*]

theorem impl_round (k : Nat) (s : ByteArray) (i : Int) (h0 : 0 ≤ i) (hn : s.size ≤ 140737488351232) :
    impl_ValidWord.l0 (k + 1) s s.size i = if i < s.size then (if okc s i then impl_ValidWord.l0 k s s.size (i + 1) else some false) else some true := by
  simp only [impl_ValidWord.l0, tmod2 h0]
  by_cases hlt : i < s.size
  · rw [wrap1 h0 hlt (by omega)]
    by_cases hc : okc s i
    all_goals
      simp only [hc, if_true, if_false]
      unfold okc at hc
      (repeat' split) <;> first | rfl | (exfalso; omega)
  · rw [if_neg hlt, if_neg hlt]

theorem spec_loop (s : ByteArray) (hn : s.size ≤ 140737488351232) (d : Nat) : ∀ i : Int, 0 ≤ i → i ≤ s.size → (s.size : Int) - i = d → ∃ b, (∀ k, d < k → spec_l03Word.l0 k s i = some b) ∧ (b = true ↔ (∀ j, i ≤ j → j < s.size → okc s j) ∧ (s.size : Int) % 2 = 0 ∧ (s.size : Int) ≤ 60) := by
  induction d with
  | zero =>
    intro i h0 h1 hd
    refine ⟨decide ((s.size : Int) % 2 = 0 ∧ (s.size : Int) ≤ 60), fun k hk => ?_, ?_⟩
    · obtain ⟨k, rfl⟩ : ∃ m, k = m + 1 := ⟨k - 1, by omega⟩
      rw [spec_round k s i h0 hn, if_neg (by omega)]
    · rw [decide_eq_true_iff]
      exact ⟨fun h => ⟨fun j hj hj' => by omega, h⟩, fun h => h.2⟩
  | succ d ih =>
    intro i h0 h1 hd
    by_cases hc : okc s i
    · obtain ⟨b, hb, hb'⟩ := ih (i + 1) (by omega) (by omega) (by omega)
      refine ⟨b, fun k hk => ?_, ?_⟩
      · obtain ⟨k, rfl⟩ : ∃ m, k = m + 1 := ⟨k - 1, by omega⟩
        rw [spec_round k s i h0 hn, if_pos (by omega), if_pos hc]
        exact hb k (by omega)
      · rw [hb']
        refine ⟨fun h => ⟨fun j hj hj' => ?_, h.2⟩, fun h => ⟨fun j hj hj' => h.1 j (by omega) hj', h.2⟩⟩
        by_cases e : j = i
        · rw [e]; exact hc
        · exact h.1 j (by omega) hj'
    · refine ⟨false, fun k hk => ?_, ?_⟩
      · obtain ⟨k, rfl⟩ : ∃ m, k = m + 1 := ⟨k - 1, by omega⟩
        rw [spec_round k s i h0 hn, if_pos (by omega), if_neg hc]
      · simp only [Bool.false_eq_true, false_iff]
        exact fun h => hc (h.1 i (by omega) (by omega))

theorem impl_loop (s : ByteArray) (hn : s.size ≤ 140737488351232) (d : Nat) : ∀ i : Int, 0 ≤ i → i ≤ s.size → (s.size : Int) - i = d → ∃ b, (∀ k, d < k → impl_ValidWord.l0 k s s.size i = some b) ∧ (b = true ↔ (∀ j, i ≤ j → j < s.size → okc s j)) := by
  induction d with
  | zero =>
    intro i h0 h1 hd
    refine ⟨true, fun k hk => ?_, ?_⟩
    · obtain ⟨k, rfl⟩ : ∃ m, k = m + 1 := ⟨k - 1, by omega⟩
      rw [impl_round k s i h0 hn, if_neg (by omega)]
    · simp only [true_iff]
      exact fun j hj hj' => by omega
  | succ d ih =>
    intro i h0 h1 hd
    by_cases hc : okc s i
    · obtain ⟨b, hb, hb'⟩ := ih (i + 1) (by omega) (by omega) (by omega)
      refine ⟨b, fun k hk => ?_, ?_⟩
      · obtain ⟨k, rfl⟩ : ∃ m, k = m + 1 := ⟨k - 1, by omega⟩
        rw [impl_round k s i h0 hn, if_pos (by omega), if_pos hc]
        exact hb k (by omega)
      · rw [hb']
        refine ⟨fun h j hj hj' => ?_, fun h j hj hj' => h j (by omega) hj'⟩
        by_cases e : j = i
        · rw [e]; exact hc
        · exact h j (by omega) hj'
    · refine ⟨false, fun k hk => ?_, ?_⟩
      · obtain ⟨k, rfl⟩ : ∃ m, k = m + 1 := ⟨k - 1, by omega⟩
        rw [impl_round k s i h0 hn, if_pos (by omega), if_neg hc]
      · simp only [Bool.false_eq_true, false_iff]
        exact fun h => hc (h i (by omega) (by omega))

/-- A word is valid. -/
def Word (s : ByteArray) : Prop := (∀ j : Int, 0 ≤ j → j < s.size → okc s j) ∧ (s.size : Int) % 2 = 0 ∧ (s.size : Int) ≤ 60

theorem spec_word (s : ByteArray) (hn : s.size ≤ 140737488351232) : ∃ b, (∀ k, s.size < k → spec_l03Word.f k s = some b) ∧ (b = true ↔ Word s) :=
  spec_loop s hn s.size 0 (by omega) (by omega) (by omega)

theorem impl_word (s : ByteArray) (hn : s.size ≤ 140737488351232) : ∃ b, (∀ k, s.size + 1 < k → impl_ValidWord.f k s = some b) ∧ (b = true ↔ Word s) := by
  obtain ⟨b, hb, hb'⟩ := impl_loop s hn s.size 0 (by omega) (by omega) (by omega)
  by_cases h : (s.size : Int) % 2 = 0 ∧ (s.size : Int) ≤ 60
  · refine ⟨b, fun k hk => ?_, hb'.trans ⟨fun q => ⟨q, h⟩, fun q => q.1⟩⟩
    obtain ⟨k, rfl⟩ : ∃ m, k = m + 1 := ⟨k - 1, by omega⟩
    unfold impl_ValidWord.f
    have e : (((s.size : Int) % 2) != 0) = false := by rw [h.1]; rfl
    rw [if_neg (by omega), e]
    simp only [impl_ValidWord.j0, Bool.false_eq_true, if_false]
    exact hb k (by omega)
  · refine ⟨false, fun k hk => ?_, by simp only [Bool.false_eq_true, false_iff]; exact fun q => h q.2⟩
    obtain ⟨k, rfl⟩ : ∃ m, k = m + 1 := ⟨k - 1, by omega⟩
    unfold impl_ValidWord.f
    by_cases g : (s.size : Int) > 60
    · rw [if_pos g]
      simp only [impl_ValidWord.j0, if_true]
    · have e : (((s.size : Int) % 2) != 0) = true := bne_iff_ne.mpr fun q => h ⟨q, by omega⟩
      rw [if_neg g, e]
      simp only [impl_ValidWord.j0, if_true]
end W
open W

theorem FnExactValidWord : laws_FnExactValidWord.Pure := by
  intro s hn
  obtain ⟨b, hb, hb'⟩ := spec_word s hn
  obtain ⟨c, hc, hc'⟩ := impl_word s hn
  have e : c = b := by rw [Bool.eq_iff_iff, hb', hc']
  refine ⟨s.size + 2, ?_⟩
  unfold laws_FnExactValidWord.f spec_ValidWord.f
  rw [hb _ (by omega), hc _ (by omega), e]
  simp

end Go.Proofs.Ytapbfobhnbcpdaa.Pure
