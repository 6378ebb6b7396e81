/- MirrorWord of the program answers what the reference's answers, for every text. Conditions: none. -/
import Derived.Test.YtapbfobhnbcpdaaPFnExactMirrorWordx2
namespace Go.Proofs.Ytapbfobhnbcpdaa.Pure
open Go.RowKit Go.Proofs.Ytapbfobhnbcpdaa.PFnExactMirrorWord Go.Proofs.YtapbfobhnbcpdaaW.PrintWords Go.Proofs.YtapbfobhnbcpdaaW.PrintLast
namespace W

/-- Byte j of a word may stand there. -/
def okc (s : ByteArray) (j : Int) : Prop := (j % 2 = 0 ∧ 48 ≤ bt s j ∧ bt s j ≤ 57) ∨ (j % 2 = 1 ∧ (bt s j = 108 ∨ bt s j = 114))
instance (s : ByteArray) (j : Int) : Decidable (okc s j) := by unfold okc; infer_instance

theorem wrap1 {i n : Int} (h0 : 0 ≤ i) (h : i < n) (hn : n ≤ 140737488351232) : wrap64 (i + 1) = i + 1 := by
  unfold wrap64
  omega

theorem tmod2 {i : Int} (h0 : 0 ≤ i) : Int.tmod i 2 = i % 2 := Int.tmod_eq_emod_of_nonneg h0

theorem spec_round (k : Nat) (s : ByteArray) (i : Int) (h0 : 0 ≤ i) (hn : s.size ≤ 140737488351232) :
    spec_l03Word.l0 (k + 1) s i = if i < s.size then (if okc s i then spec_l03Word.l0 k s (i + 1) else some false) else some (decide ((s.size : Int) % 2 = 0 ∧ (s.size : Int) ≤ 60)) := by
  simp only [spec_l03Word.l0, tmod2 h0]
  by_cases hlt : i < s.size
  · rw [wrap1 h0 hlt (by omega)]
    by_cases hc : okc s i
    all_goals
      simp only [hc, if_true, if_false]
      unfold okc at hc
      (repeat' split) <;> first | rfl | (exfalso; omega)
  · rw [if_neg hlt, if_neg hlt]
    split <;> simp [*]

theorem impl_round (k : Nat) (s : ByteArray) (i : Int) (h0 : 0 ≤ i) (hn : s.size ≤ 140737488351232) :
    impl_ValidWord.l0 (k + 1) s s.size i = if i < s.size then (if okc s i then impl_ValidWord.l0 k s s.size (i + 1) else some false) else some true := by
  simp only [impl_ValidWord.l0, tmod2 h0]
  by_cases hlt : i < s.size
  · rw [wrap1 h0 hlt (by omega)]
    by_cases hc : okc s i
    all_goals
      simp only [hc, if_true, if_false]
      unfold okc at hc
      (repeat' split) <;> first | rfl | (exfalso; omega)
  · rw [if_neg hlt, if_neg hlt]

theorem spec_loop (s : ByteArray) (hn : s.size ≤ 140737488351232) (d : Nat) : ∀ i : Int, 0 ≤ i → i ≤ s.size → (s.size : Int) - i = d → ∃ b, (∀ k, d < k → spec_l03Word.l0 k s i = some b) ∧ (b = true ↔ (∀ j, i ≤ j → j < s.size → okc s j) ∧ (s.size : Int) % 2 = 0 ∧ (s.size : Int) ≤ 60) := by
  induction d with
  | zero =>
    intro i h0 h1 hd
    refine ⟨decide ((s.size : Int) % 2 = 0 ∧ (s.size : Int) ≤ 60), fun k hk => ?_, ?_⟩
    · obtain ⟨k, rfl⟩ : ∃ m, k = m + 1 := ⟨k - 1, by omega⟩
      rw [spec_round k s i h0 hn, if_neg (by omega)]
    · rw [decide_eq_true_iff]
      exact ⟨fun h => ⟨fun j hj hj' => by omega, h⟩, fun h => h.2⟩
  | succ d ih =>
    intro i h0 h1 hd
    by_cases hc : okc s i
    · obtain ⟨b, hb, hb'⟩ := ih (i + 1) (by omega) (by omega) (by omega)
      refine ⟨b, fun k hk => ?_, ?_⟩
      · obtain ⟨k, rfl⟩ : ∃ m, k = m + 1 := ⟨k - 1, by omega⟩
        rw [spec_round k s i h0 hn, if_pos (by omega), if_pos hc]
        exact hb k (by omega)
      · rw [hb']
        refine ⟨fun h => ⟨fun j hj hj' => ?_, h.2⟩, fun h => ⟨fun j hj hj' => h.1 j (by omega) hj', h.2⟩⟩
        by_cases e : j = i
        · rw [e]; exact hc
        · exact h.1 j (by omega) hj'
    · refine ⟨false, fun k hk => ?_, ?_⟩
      · obtain ⟨k, rfl⟩ : ∃ m, k = m + 1 := ⟨k - 1, by omega⟩
        rw [spec_round k s i h0 hn, if_pos (by omega), if_neg hc]
      · simp only [Bool.false_eq_true, false_iff]
        exact fun h => hc (h.1 i (by omega) (by omega))

theorem impl_loop (s : ByteArray) (hn : s.size ≤ 140737488351232) (d : Nat) : ∀ i : Int, 0 ≤ i → i ≤ s.size → (s.size : Int) - i = d → ∃ b, (∀ k, d < k → impl_ValidWord.l0 k s s.size i = some b) ∧ (b = true ↔ (∀ j, i ≤ j → j < s.size → okc s j)) := by
  induction d with
  | zero =>
    intro i h0 h1 hd
    refine ⟨true, fun k hk => ?_, ?_⟩
    · obtain ⟨k, rfl⟩ : ∃ m, k = m + 1 := ⟨k - 1, by omega⟩
      rw [impl_round k s i h0 hn, if_neg (by omega)]
    · simp only [true_iff]
      exact fun j hj hj' => by omega
  | succ d ih =>
    intro i h0 h1 hd
    by_cases hc : okc s i
    · obtain ⟨b, hb, hb'⟩ := ih (i + 1) (by omega) (by omega) (by omega)
      refine ⟨b, fun k hk => ?_, ?_⟩
      · obtain ⟨k, rfl⟩ : ∃ m, k = m + 1 := ⟨k - 1, by omega⟩
        rw [impl_round k s i h0 hn, if_pos (by omega), if_pos hc]
        exact hb k (by omega)
      · rw [hb']
        refine ⟨fun h j hj hj' => ?_, fun h j hj hj' => h j (by omega) hj'⟩
        by_cases e : j = i
        · rw [e]; exact hc
        · exact h j (by omega) hj'
    · refine ⟨false, fun k hk => ?_, ?_⟩
      · obtain ⟨k, rfl⟩ : ∃ m, k = m + 1 := ⟨k - 1, by omega⟩
        rw [impl_round k s i h0 hn, if_pos (by omega), if_neg hc]
      · simp only [Bool.false_eq_true, false_iff]
        exact fun h => hc (h i (by omega) (by omega))

/-- A word is valid. -/
def Word (s : ByteArray) : Prop := (∀ j : Int, 0 ≤ j → j < s.size → okc s j) ∧ (s.size : Int) % 2 = 0 ∧ (s.size : Int) ≤ 60

theorem spec_word (s : ByteArray) (hn : s.size ≤ 140737488351232) : ∃ b, (∀ k, s.size < k → spec_l03Word.f k s = some b) ∧ (b = true ↔ Word s) :=
  spec_loop s hn s.size 0 (by omega) (by omega) (by omega)

theorem impl_word (s : ByteArray) (hn : s.size ≤ 140737488351232) : ∃ b, (∀ k, s.size + 1 < k → impl_ValidWord.f k s = some b) ∧ (b = true ↔ Word s) := by
  obtain ⟨b, hb, hb'⟩ := impl_loop s hn s.size 0 (by omega) (by omega) (by omega)
  by_cases h : (s.size : Int) % 2 = 0 ∧ (s.size : Int) ≤ 60
  · refine ⟨b, fun k hk => ?_, hb'.trans ⟨fun q => ⟨q, h⟩, fun q => q.1⟩⟩
    obtain ⟨k, rfl⟩ : ∃ m, k = m + 1 := ⟨k - 1, by omega⟩
    unfold impl_ValidWord.f
    have e : (((s.size : Int) % 2) != 0) = false := by rw [h.1]; rfl
    rw [if_neg (by omega), e]
    simp only [impl_ValidWord.j0, Bool.false_eq_true, if_false]
    exact hb k (by omega)
  · refine ⟨false, fun k hk => ?_, by simp only [Bool.false_eq_true, false_iff]; exact fun q => h q.2⟩
    obtain ⟨k, rfl⟩ : ∃ m, k = m + 1 := ⟨k - 1, by omega⟩
    unfold impl_ValidWord.f
    by_cases g : (s.size : Int) > 60
    · rw [if_pos g]
      simp only [impl_ValidWord.j0, if_true]
    · have e : (((s.size : Int) % 2) != 0) = true := bne_iff_ne.mpr fun q => h ⟨q, by omega⟩
      rw [if_neg g, e]
      simp only [impl_ValidWord.j0, if_true]

/-- d turns of a word, from byte i on. -/
def turnsFrom (s : ByteArray) : Nat → Nat → List ByteArray
  | _, 0 => []
  | i, d + 1 => s.extract i (i + 2) :: turnsFrom s (i + 2) d

theorem turnsFrom_size {s : ByteArray} : ∀ {d i : Nat}, i + 2 * d ≤ s.size → ∀ t ∈ turnsFrom s i d, t.size = 2
  | 0, i, _, t, ht => by simp [turnsFrom] at ht
  | d + 1, i, h, t, ht => by
    simp only [turnsFrom, List.mem_cons] at ht
    rcases ht with rfl | ht
    · rw [ByteArray.size_extract]
      omega
    · exact turnsFrom_size (d := d) (i := i + 2) (by omega) t ht

theorem turnsFrom_length (s : ByteArray) : ∀ (d i : Nat), (turnsFrom s i d).length = d
  | 0, _ => rfl
  | d + 1, i => by simp [turnsFrom, turnsFrom_length s d (i + 2)]

/-- The turns of a word. -/
def turns (s : ByteArray) : List ByteArray := turnsFrom s 0 (s.size / 2)

theorem impl_turns_loop (s : ByteArray) (hn : s.size ≤ 1000000) (d : Nat) : ∀ (m : Nat) (acc : List ByteArray), s.size = 2 * (m + d) → acc.length = m → ∀ k, d < k → impl_turnsOf.l0 k s acc ((2 * m : Nat) : Int) = some (acc ++ turnsFrom s (2 * m) d) := by
  induction d with
  | zero =>
    intro m acc hs ha k hk
    obtain ⟨k, rfl⟩ : ∃ q, k = q + 1 := ⟨k - 1, by omega⟩
    simp only [impl_turnsOf.l0]
    rw [if_neg (by omega)]
    simp [turnsFrom]
  | succ d ih =>
    intro m acc hs ha k hk
    obtain ⟨k, rfl⟩ : ∃ q, k = q + 1 := ⟨k - 1, by omega⟩
    have hw : wrap64 (((2 * m : Nat) : Int) + 2) = ((2 * (m + 1) : Nat) : Int) := by unfold wrap64; omega
    simp only [impl_turnsOf.l0, hw]
    rw [if_pos (by omega), if_pos (by omega), if_pos (by omega), if_pos (by omega), if_pos (by omega), ih (m + 1) _ (by omega) (by simp [ha]) k (by omega)]
    simp only [turnsFrom, Int.toNat_natCast, List.append_assoc, List.singleton_append]
    rfl

theorem spec_turns_loop (s : ByteArray) (hn : s.size ≤ 1000000) (d : Nat) : ∀ (m : Nat) (acc : List ByteArray), s.size = 2 * (m + d) → acc.length = m → ∀ k, d < k → spec_l03Turns.l0 k s acc ((2 * m : Nat) : Int) = some (acc ++ turnsFrom s (2 * m) d) := by
  induction d with
  | zero =>
    intro m acc hs ha k hk
    obtain ⟨k, rfl⟩ : ∃ q, k = q + 1 := ⟨k - 1, by omega⟩
    have hw : wrap64 (((2 * m : Nat) : Int) + 1) = ((2 * m + 1 : Nat) : Int) := by unfold wrap64; omega
    simp only [spec_l03Turns.l0, hw]
    rw [if_neg (by omega)]
    simp [turnsFrom]
  | succ d ih =>
    intro m acc hs ha k hk
    obtain ⟨k, rfl⟩ : ∃ q, k = q + 1 := ⟨k - 1, by omega⟩
    have hw : wrap64 (((2 * m : Nat) : Int) + 2) = ((2 * (m + 1) : Nat) : Int) := by unfold wrap64; omega
    have hw1 : wrap64 (((2 * m : Nat) : Int) + 1) = ((2 * m + 1 : Nat) : Int) := by unfold wrap64; omega
    simp only [spec_l03Turns.l0, hw, hw1]
    rw [if_pos (by omega), if_pos (by omega), if_pos (by omega), if_pos (by omega), if_pos (by omega), ih (m + 1) _ (by omega) (by simp [ha]) k (by omega)]
    simp only [turnsFrom, Int.toNat_natCast, List.append_assoc, List.singleton_append]
    rfl

theorem impl_turns (s : ByteArray) (h : Word s) (k : Nat) (hk : s.size < k) : impl_turnsOf.f k s = some (turns s) := by
  have := impl_turns_loop s (by have := h.2.2; omega) (s.size / 2) 0 [] (by have := h.2.1; omega) rfl k (by omega)
  simpa [turns, impl_turnsOf.f] using this

theorem spec_turns (s : ByteArray) (h : Word s) (k : Nat) (hk : s.size < k) : spec_l03Turns.f k s = some (turns s) := by
  have := spec_turns_loop s (by have := h.2.2; omega) (s.size / 2) 0 [] (by have := h.2.1; omega) rfl k (by omega)
  simpa [turns, spec_l03Turns.f] using this

theorem turns_size {s : ByteArray} (h : Word s) : ∀ t ∈ turns s, t.size = 2 := turnsFrom_size (by have := h.2.1; omega)
theorem turns_length {s : ByteArray} : (turns s).length = s.size / 2 := turnsFrom_length s _ 0

/-- The same turn to the other side. -/
def oth (t : ByteArray) : ByteArray := t.extract 0 1 ++ (if bt t 1 = 108 then (⟨#[114]⟩ : ByteArray) else (⟨#[108]⟩ : ByteArray))

theorem size_one (c : UInt8) : (⟨#[c]⟩ : ByteArray).size = 1 := rfl

theorem oth_size {t : ByteArray} (h : t.size = 2) : (oth t).size = 2 := by
  unfold oth
  rw [ByteArray.size_append, ByteArray.size_extract]
  split <;> rw [size_one] <;> omega

theorem impl_oth {t : ByteArray} (h : t.size = 2) : impl_other.f t = some (oth t) := by
  have he : (t.extract 0 1).size = 1 := by rw [ByteArray.size_extract]; omega
  unfold impl_other.f oth
  by_cases hc : bt t 1 = 108 <;> simp [h, he, hc]

theorem spec_oth {t : ByteArray} (h : t.size = 2) : spec_l03Other.f t = some (oth t) := impl_oth h

theorem rd_at {xs : List ByteArray} {j : Nat} (h : j < xs.length) : rdOf ByteArray.empty xs (j : Int) = xs[j] := by
  unfold rdOf
  rw [Int.toNat_natCast, List.getD_eq_getElem?_getD, List.getElem?_eq_getElem h]
  rfl

/-- The mirror of some turns, behind what stands. -/
def mir (a : ByteArray) : List ByteArray → ByteArray
  | [] => a
  | t :: ts => mir (a ++ oth t) ts

theorem impl_mir_loop (ts : List ByteArray) (hs : ∀ t ∈ ts, t.size = 2) (hl : ts.length ≤ 1000000) (d : Nat) : ∀ (j : Nat) (a : ByteArray), ts.length = j + d → a.size = 2 * j → ∀ k, d < k → impl_MirrorWord.l0 k a ts ts.length (j : Int) = some (mir a (ts.drop j), 0) := by
  induction d with
  | zero =>
    intro j a hj ha k hk
    obtain ⟨k, rfl⟩ : ∃ q, k = q + 1 := ⟨k - 1, by omega⟩
    simp only [impl_MirrorWord.l0]
    rw [if_neg (by omega), List.drop_of_length_le (by omega)]
    rfl
  | succ d ih =>
    intro j a hj ha k hk
    obtain ⟨k, rfl⟩ : ∃ q, k = q + 1 := ⟨k - 1, by omega⟩
    have hlt : j < ts.length := by omega
    have hz := hs _ (List.getElem_mem hlt)
    have ho := oth_size hz
    have hw : wrap64 ((j : Int) + 1) = ((j + 1 : Nat) : Int) := by unfold wrap64; omega
    simp only [impl_MirrorWord.l0, hw]
    rw [if_pos (by omega), if_pos (by omega), if_pos (by omega), rd_at hlt, impl_oth hz]
    simp only [Option.bind_some]
    rw [if_pos (by omega), ih (j + 1) _ (by omega) (by rw [ByteArray.size_append]; omega) k (by omega), List.drop_eq_getElem_cons hlt]
    rfl

theorem spec_mir_loop (ts : List ByteArray) (hs : ∀ t ∈ ts, t.size = 2) (hl : ts.length ≤ 1000000) (d : Nat) : ∀ (j : Nat) (a : ByteArray), ts.length = j + d → a.size = 2 * j → ∀ k, d < k → spec_MirrorWord.l0 k ts a (j : Int) = some (mir a (ts.drop j), 0) := by
  induction d with
  | zero =>
    intro j a hj ha k hk
    obtain ⟨k, rfl⟩ : ∃ q, k = q + 1 := ⟨k - 1, by omega⟩
    simp only [spec_MirrorWord.l0]
    rw [if_neg (by omega), List.drop_of_length_le (by omega)]
    rfl
  | succ d ih =>
    intro j a hj ha k hk
    obtain ⟨k, rfl⟩ : ∃ q, k = q + 1 := ⟨k - 1, by omega⟩
    have hlt : j < ts.length := by omega
    have hz := hs _ (List.getElem_mem hlt)
    have ho := oth_size hz
    have hw : wrap64 ((j : Int) + 1) = ((j + 1 : Nat) : Int) := by unfold wrap64; omega
    simp only [spec_MirrorWord.l0, hw]
    rw [if_pos (by omega), if_pos (by omega), rd_at hlt, spec_oth hz]
    simp only [Option.bind_some]
    rw [if_pos (by omega), ih (j + 1) _ (by omega) (by rw [ByteArray.size_append]; omega) k (by omega), List.drop_eq_getElem_cons hlt]
    rfl
end W
open W

theorem FnExactMirrorWord : laws_FnExactMirrorWord.Pure := by
  intro s hn
  obtain ⟨b, hb, hb'⟩ := spec_word s hn
  obtain ⟨c, hc, hc'⟩ := impl_word s hn
  have e : c = b := by rw [Bool.eq_iff_iff, hb', hc']
  subst e
  refine ⟨s.size + 2, ?_⟩
  unfold laws_FnExactMirrorWord.f spec_MirrorWord.f impl_MirrorWord.f
  rw [hb _ (by omega), hc _ (by omega)]
  simp only [Option.bind_some]
  by_cases h : Word s
  · have hl := turns_length (s := s)
    rw [hb'.2 h]
    simp only [if_true]
    rw [spec_turns s h _ (by omega), impl_turns s h _ (by omega)]
    simp only [Option.bind_some]
    have h1 := impl_mir_loop (turns s) (turns_size h) (by have := h.2.2; omega) (turns s).length 0 ⟨#[]⟩ (by omega) rfl (s.size + 2) (by omega)
    have h2 := spec_mir_loop (turns s) (turns_size h) (by have := h.2.2; omega) (turns s).length 0 ⟨#[]⟩ (by omega) rfl (s.size + 2) (by omega)
    rw [Int.natCast_zero] at h1 h2
    rw [h1, h2]
    simp
  · have e : c = false := by
      cases c
      · rfl
      · exact absurd (hb'.1 rfl) h
    rw [e]
    simp

end Go.Proofs.Ytapbfobhnbcpdaa.Pure
