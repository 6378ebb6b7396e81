/- UndoWord of the program answers what the reference's answers, for every text. Conditions: none. -/
import Derived.Test.YtmdcndpnbljpfaaPFnExactUndoWordx2
namespace Go.Proofs.Ytmdcndpnbljpfaa.Pure
open Go.RowKit Go.Proofs.Ytmdcndpnbljpfaa.PFnExactUndoWord Go.Proofs.YtmdcndpnbljpfaaW.PrintWords Go.Proofs.YtmdcndpnbljpfaaW.PrintLast
set_option linter.unusedVariables false
set_option linter.unusedSimpArgs false

/-- Byte j of a word may stand there. -/
def okc (s : ByteArray) (j : Int) : Prop := (j % 2 = 0 ∧ 48 ≤ bt s j ∧ bt s j ≤ 57) ∨ (j % 2 = 1 ∧ (bt s j = 108 ∨ bt s j = 114))
instance (s : ByteArray) (j : Int) : Decidable (okc s j) := by unfold okc; infer_instance

theorem wrap1 {i n : Int} (h0 : 0 ≤ i) (h : i < n) (hn : n ≤ 140737488351232) : wrap64 (i + 1) = i + 1 := by
  unfold wrap64
  omega

theorem tmod2 {i : Int} (h0 : 0 ≤ i) : Int.tmod i 2 = i % 2 := Int.tmod_eq_emod_of_nonneg h0

theorem spec_round (k : Nat) (s : ByteArray) (i : Int) (h0 : 0 ≤ i) (hn : s.size ≤ 140737488351232) :
    spec_l03Word.l0 (k + 1) s i = if i < s.size then (if okc s i then spec_l03Word.l0 k s (i + 1) else some false) else some (decide ((s.size : Int) % 2 = 0 ∧ (s.size : Int) ≤ 60)) := by
  simp only [spec_l03Word.l0, tmod2 h0]
  by_cases hlt : i < s.size
  · rw [wrap1 h0 hlt (by omega)]
    by_cases hc : okc s i
    all_goals
      simp only [hc, if_true, if_false]
      unfold okc at hc
      (repeat' split) <;> first | rfl | (exfalso; omega)
  · rw [if_neg hlt, if_neg hlt]
    split <;> simp [*]

theorem impl_round (k : Nat) (s : ByteArray) (i : Int) (h0 : 0 ≤ i) (hn : s.size ≤ 140737488351232) :
    impl_ValidWord.l0 (k + 1) s s.size i = if i < s.size then (if okc s i then impl_ValidWord.l0 k s s.size (i + 1) else some false) else some true := by
  simp only [impl_ValidWord.l0, tmod2 h0]
  by_cases hlt : i < s.size
  · rw [wrap1 h0 hlt (by omega)]
    by_cases hc : okc s i
    all_goals
      simp only [hc, if_true, if_false]
      unfold okc at hc
      (repeat' split) <;> first | rfl | (exfalso; omega)
  · rw [if_neg hlt, if_neg hlt]

theorem spec_loop (s : ByteArray) (hn : s.size ≤ 140737488351232) (d : Nat) : ∀ i : Int, 0 ≤ i → i ≤ s.size → (s.size : Int) - i = d → ∃ b, (∀ k, d < k → spec_l03Word.l0 k s i = some b) ∧ (b = true ↔ (∀ j, i ≤ j → j < s.size → okc s j) ∧ (s.size : Int) % 2 = 0 ∧ (s.size : Int) ≤ 60) := by
  induction d with
  | zero =>
    intro i h0 h1 hd
    refine ⟨decide ((s.size : Int) % 2 = 0 ∧ (s.size : Int) ≤ 60), fun k hk => ?_, ?_⟩
    · obtain ⟨k, rfl⟩ : ∃ m, k = m + 1 := ⟨k - 1, by omega⟩
      rw [spec_round k s i h0 hn, if_neg (by omega)]
    · rw [decide_eq_true_iff]
      exact ⟨fun h => ⟨fun j hj hj' => by omega, h⟩, fun h => h.2⟩
  | succ d ih =>
    intro i h0 h1 hd
    by_cases hc : okc s i
    · obtain ⟨b, hb, hb'⟩ := ih (i + 1) (by omega) (by omega) (by omega)
      refine ⟨b, fun k hk => ?_, ?_⟩
      · obtain ⟨k, rfl⟩ : ∃ m, k = m + 1 := ⟨k - 1, by omega⟩
        rw [spec_round k s i h0 hn, if_pos (by omega), if_pos hc]
        exact hb k (by omega)
      · rw [hb']
        refine ⟨fun h => ⟨fun j hj hj' => ?_, h.2⟩, fun h => ⟨fun j hj hj' => h.1 j (by omega) hj', h.2⟩⟩
        by_cases e : j = i
        · rw [e]; exact hc
        · exact h.1 j (by omega) hj'
    · refine ⟨false, fun k hk => ?_, ?_⟩
      · obtain ⟨k, rfl⟩ : ∃ m, k = m + 1 := ⟨k - 1, by omega⟩
        rw [spec_round k s i h0 hn, if_pos (by omega), if_neg hc]
      · simp only [Bool.false_eq_true, false_iff]
        exact fun h => hc (h.1 i (by omega) (by omega))

theorem impl_loop (s : ByteArray) (hn : s.size ≤ 140737488351232) (d : Nat) : ∀ i : Int, 0 ≤ i → i ≤ s.size → (s.size : Int) - i = d → ∃ b, (∀ k, d < k → impl_ValidWord.l0 k s s.size i = some b) ∧ (b = true ↔ (∀ j, i ≤ j → j < s.size → okc s j)) := by
  induction d with
  | zero =>
    intro i h0 h1 hd
    refine ⟨true, fun k hk => ?_, ?_⟩
    · obtain ⟨k, rfl⟩ : ∃ m, k = m + 1 := ⟨k - 1, by omega⟩
      rw [impl_round k s i h0 hn, if_neg (by omega)]
    · simp only [true_iff]
      exact fun j hj hj' => by omega
  | succ d ih =>
    intro i h0 h1 hd
    by_cases hc : okc s i
    · obtain ⟨b, hb, hb'⟩ := ih (i + 1) (by omega) (by omega) (by omega)
      refine ⟨b, fun k hk => ?_, ?_⟩
      · obtain ⟨k, rfl⟩ : ∃ m, k = m + 1 := ⟨k - 1, by omega⟩
        rw [impl_round k s i h0 hn, if_pos (by omega), if_pos hc]
        exact hb k (by omega)
      · rw [hb']
        refine ⟨fun h j hj hj' => ?_, fun h j hj hj' => h j (by omega) hj'⟩
        by_cases e : j = i
        · rw [e]; exact hc
        · exact h j (by omega) hj'
    · refine ⟨false, fun k hk => ?_, ?_⟩
      · obtain ⟨k, rfl⟩ : ∃ m, k = m + 1 := ⟨k - 1, by omega⟩
        rw [impl_round k s i h0 hn, if_pos (by omega), if_neg hc]
      · simp only [Bool.false_eq_true, false_iff]
        exact fun h => hc (h i (by omega) (by omega))

/-- A word is valid. -/
def Word (s : ByteArray) : Prop := (∀ j : Int, 0 ≤ j → j < s.size → okc s j) ∧ (s.size : Int) % 2 = 0 ∧ (s.size : Int) ≤ 60

theorem spec_word (s : ByteArray) (hn : s.size ≤ 140737488351232) : ∃ b, (∀ k, s.size < k → spec_l03Word.f k s = some b) ∧ (b = true ↔ Word s) :=
  spec_loop s hn s.size 0 (by omega) (by omega) (by omega)

theorem impl_word (s : ByteArray) (hn : s.size ≤ 140737488351232) : ∃ b, (∀ k, s.size + 1 < k → impl_ValidWord.f k s = some b) ∧ (b = true ↔ Word s) := by
  obtain ⟨b, hb, hb'⟩ := impl_loop s hn s.size 0 (by omega) (by omega) (by omega)
  by_cases h : (s.size : Int) % 2 = 0 ∧ (s.size : Int) ≤ 60
  · refine ⟨b, fun k hk => ?_, hb'.trans ⟨fun q => ⟨q, h⟩, fun q => q.1⟩⟩
    obtain ⟨k, rfl⟩ : ∃ m, k = m + 1 := ⟨k - 1, by omega⟩
    unfold impl_ValidWord.f
    have e : (((s.size : Int) % 2) != 0) = false := by rw [h.1]; rfl
    rw [if_neg (by omega), e]
    simp only [impl_ValidWord.j0, Bool.false_eq_true, if_false]
    exact hb k (by omega)
  · refine ⟨false, fun k hk => ?_, by simp only [Bool.false_eq_true, false_iff]; exact fun q => h q.2⟩
    obtain ⟨k, rfl⟩ : ∃ m, k = m + 1 := ⟨k - 1, by omega⟩
    unfold impl_ValidWord.f
    by_cases g : (s.size : Int) > 60
    · rw [if_pos g]
      simp only [impl_ValidWord.j0, if_true]
    · have e : (((s.size : Int) % 2) != 0) = true := bne_iff_ne.mpr fun q => h ⟨q, by omega⟩
      rw [if_neg g, e]
      simp only [impl_ValidWord.j0, if_true]

/-- d turns of a word, from byte i on. -/
def turnsFrom (s : ByteArray) : Nat → Nat → List ByteArray
  | _, 0 => []
  | i, d + 1 => s.extract i (i + 2) :: turnsFrom s (i + 2) d

theorem turnsFrom_length (s : ByteArray) : ∀ (d i : Nat), (turnsFrom s i d).length = d
  | 0, _ => rfl
  | d + 1, i => by simp [turnsFrom, turnsFrom_length s d (i + 2)]

/-- The turns of a word. -/
def turns (s : ByteArray) : List ByteArray := turnsFrom s 0 (s.size / 2)

theorem impl_turns_loop (s : ByteArray) (hn : s.size ≤ 1000000) (d : Nat) : ∀ (m : Nat) (acc : List ByteArray), s.size = 2 * (m + d) → acc.length = m → ∀ k, d < k → impl_turnsOf.l0 k s acc ((2 * m : Nat) : Int) = some (acc ++ turnsFrom s (2 * m) d) := by
  induction d with
  | zero =>
    intro m acc hs ha k hk
    obtain ⟨k, rfl⟩ : ∃ q, k = q + 1 := ⟨k - 1, by omega⟩
    simp only [impl_turnsOf.l0]
    rw [if_neg (by omega)]
    simp [turnsFrom]
  | succ d ih =>
    intro m acc hs ha k hk
    obtain ⟨k, rfl⟩ : ∃ q, k = q + 1 := ⟨k - 1, by omega⟩
    have hw : wrap64 (((2 * m : Nat) : Int) + 2) = ((2 * (m + 1) : Nat) : Int) := by unfold wrap64; omega
    simp only [impl_turnsOf.l0, hw]
    rw [if_pos (by omega), if_pos (by omega), if_pos (by omega), if_pos (by omega), if_pos (by omega), ih (m + 1) _ (by omega) (by simp [ha]) k (by omega)]
    simp only [turnsFrom, Int.toNat_natCast, List.append_assoc, List.singleton_append]
    rfl

theorem spec_turns_loop (s : ByteArray) (hn : s.size ≤ 1000000) (d : Nat) : ∀ (m : Nat) (acc : List ByteArray), s.size = 2 * (m + d) → acc.length = m → ∀ k, d < k → spec_l03Turns.l0 k s acc ((2 * m : Nat) : Int) = some (acc ++ turnsFrom s (2 * m) d) := by
  induction d with
  | zero =>
    intro m acc hs ha k hk
    obtain ⟨k, rfl⟩ : ∃ q, k = q + 1 := ⟨k - 1, by omega⟩
    have hw : wrap64 (((2 * m : Nat) : Int) + 1) = ((2 * m + 1 : Nat) : Int) := by unfold wrap64; omega
    simp only [spec_l03Turns.l0, hw]
    rw [if_neg (by omega)]
    simp [turnsFrom]
  | succ d ih =>
    intro m acc hs ha k hk
    obtain ⟨k, rfl⟩ : ∃ q, k = q + 1 := ⟨k - 1, by omega⟩
    have hw : wrap64 (((2 * m : Nat) : Int) + 2) = ((2 * (m + 1) : Nat) : Int) := by unfold wrap64; omega
    have hw1 : wrap64 (((2 * m : Nat) : Int) + 1) = ((2 * m + 1 : Nat) : Int) := by unfold wrap64; omega
    simp only [spec_l03Turns.l0, hw, hw1]
    rw [if_pos (by omega), if_pos (by omega), if_pos (by omega), if_pos (by omega), if_pos (by omega), ih (m + 1) _ (by omega) (by simp [ha]) k (by omega)]
    simp only [turnsFrom, Int.toNat_natCast, List.append_assoc, List.singleton_append]
    rfl

theorem impl_turns (s : ByteArray) (h : Word s) (k : Nat) (hk : s.size < k) : impl_turnsOf.f k s = some (turns s) := by
  have := impl_turns_loop s (by have := h.2.2; omega) (s.size / 2) 0 [] (by have := h.2.1; omega) rfl k (by omega)
  simpa [turns, impl_turnsOf.f] using this

theorem spec_turns (s : ByteArray) (h : Word s) (k : Nat) (hk : s.size < k) : spec_l03Turns.f k s = some (turns s) := by
  have := spec_turns_loop s (by have := h.2.2; omega) (s.size / 2) 0 [] (by have := h.2.1; omega) rfl k (by omega)
  simpa [turns, spec_l03Turns.f] using this

theorem turns_length {s : ByteArray} : (turns s).length = s.size / 2 := turnsFrom_length s _ 0

/-- The same turn to the other side. -/
def oth (t : ByteArray) : ByteArray := t.extract 0 1 ++ (if bt t 1 = 108 then (⟨#[114]⟩ : ByteArray) else (⟨#[108]⟩ : ByteArray))

theorem size_one (c : UInt8) : (⟨#[c]⟩ : ByteArray).size = 1 := rfl

theorem oth_size {t : ByteArray} (h : t.size = 2) : (oth t).size = 2 := by
  unfold oth
  rw [ByteArray.size_append, ByteArray.size_extract]
  split <;> rw [size_one] <;> omega

theorem impl_oth {t : ByteArray} (h : t.size = 2) : impl_other.f t = some (oth t) := by
  have he : (t.extract 0 1).size = 1 := by rw [ByteArray.size_extract]; omega
  unfold impl_other.f oth
  by_cases hc : bt t 1 = 108 <;> simp [h, he, hc]



theorem toList_loop (s : ByteArray) (d : Nat) : ∀ (i : Nat) (r : List UInt8), s.size = i + d → ByteArray.toList.loop s i r = r.reverse ++ s.data.toList.drop i := by
  induction d with
  | zero =>
    intro i r h
    rw [ByteArray.toList.loop, if_neg (by omega), List.drop_of_length_le (by rw [Array.length_toList]; exact Nat.le_of_eq h)]
    simp
  | succ d ih =>
    intro i r h
    have hl : i < s.data.toList.length := by rw [Array.length_toList]; show i < s.size; omega
    rw [ByteArray.toList.loop, if_pos (by omega), ih (i + 1) _ (by omega), List.drop_eq_getElem_cons hl]
    have e : s.get! i = s.data.toList[i] := by
      show s.data[i]! = _
      rw [getElem!_pos s.data i (by simpa using hl)]
      simp
    rw [e]
    simp
theorem toList_eq (s : ByteArray) : s.toList = s.data.toList := by
  unfold ByteArray.toList
  rw [toList_loop s s.size 0 [] (by omega)]
  simp
theorem toList_inj {a b : ByteArray} (h : a.toList = b.toList) : a = b := by
  rw [toList_eq, toList_eq] at h
  exact ByteArray.ext (Array.toList_inj.1 h)

abbrev Tn := Int × Bool
def inv (a : Tn) : Tn := (a.1, !a.2)
theorem rd_at {xs : List ByteArray} {j : Nat} (h : j < xs.length) : rdOf ByteArray.empty xs (j : Int) = xs[j] := by
  unfold rdOf
  rw [Int.toNat_natCast, List.getD_eq_getElem?_getD, List.getElem?_eq_getElem h]
  rfl
/-- A turn as a text. -/
def Ok (t : ByteArray) : Prop := t.size = 2 ∧ (48 ≤ bt t 0 ∧ bt t 0 ≤ 57) ∧ (bt t 1 = 108 ∨ bt t 1 = 114)
def tr (t : ByteArray) : Tn := (bt t 0, decide (bt t 1 = 108))
theorem bt_nat {s : ByteArray} {i : Nat} (h : i < s.size) : bt s (i : Int) = (s[i].toNat : Int) := by
  rw [← bt_at s (i : Int) (by simpa using h)]
  rfl
theorem bt_inj {a b : ByteArray} {i : Nat} (ha : i < a.size) (hb : i < b.size) (h : bt a (i : Int) = bt b (i : Int)) : a[i] = b[i] := by
  rw [bt_nat ha, bt_nat hb] at h
  exact UInt8.toNat_inj.1 (by omega)
theorem tr_inj {a b : ByteArray} (ha : Ok a) (hb : Ok b) (h : tr a = tr b) : a = b := by
  obtain ⟨h1, _, h2⟩ := ha
  obtain ⟨g1, _, g2⟩ := hb
  have e0 : bt a 0 = bt b 0 := congrArg Prod.fst h
  have e1 : bt a 1 = bt b 1 := by
    have := congrArg Prod.snd h
    simp only [tr, decide_eq_decide] at this
    omega
  refine ByteArray.ext_getElem (by omega) fun i hi hi' => ?_
  have hc : i = 0 ∨ i = 1 := by omega
  rcases hc with rfl | rfl
  · exact bt_inj hi hi' e0
  · exact bt_inj hi hi' e1
theorem bt_ext0 {s : ByteArray} {i : Nat} (h : i + 2 ≤ s.size) : bt (s.extract i (i + 2)) 0 = bt s (i : Int) := by
  have hz : (s.extract i (i + 2)).size = 2 := by rw [ByteArray.size_extract]; omega
  have h1 := bt_nat (s := s.extract i (i + 2)) (i := 0) (by omega)
  rw [ByteArray.getElem_extract] at h1
  rw [show ((0 : Int)) = ((0 : Nat) : Int) from rfl, h1, bt_nat (by omega)]
  rfl
theorem bt_ext1 {s : ByteArray} {i : Nat} (h : i + 2 ≤ s.size) : bt (s.extract i (i + 2)) 1 = bt s ((i + 1 : Nat) : Int) := by
  have hz : (s.extract i (i + 2)).size = 2 := by rw [ByteArray.size_extract]; omega
  have h1 := bt_nat (s := s.extract i (i + 2)) (i := 1) (by omega)
  rw [ByteArray.getElem_extract] at h1
  rw [show ((1 : Int)) = ((1 : Nat) : Int) from rfl, h1, bt_nat (by omega)]
theorem turnsFrom_ok {s : ByteArray} (h : Word s) : ∀ {d m : Nat}, 2 * m + 2 * d ≤ s.size → ∀ t ∈ turnsFrom s (2 * m) d, Ok t
  | 0, m, _, t, ht => by simp [turnsFrom] at ht
  | d + 1, m, hd, t, ht => by
    simp only [turnsFrom, List.mem_cons] at ht
    rcases ht with rfl | ht
    · have h0 := h.1 ((2 * m : Nat) : Int) (by omega) (by omega)
      have h1 := h.1 ((2 * m + 1 : Nat) : Int) (by omega) (by omega)
      unfold okc at h0 h1
      refine ⟨by rw [ByteArray.size_extract]; omega, ?_, ?_⟩
      · rw [bt_ext0 (by omega)]; omega
      · rw [bt_ext1 (by omega)]; omega
    · exact turnsFrom_ok h (d := d) (m := m + 1) (by omega) t (by rwa [show 2 * (m + 1) = 2 * m + 2 from by omega])
theorem turns_ok {s : ByteArray} (h : Word s) : ∀ t ∈ turns s, Ok t := by
  have := turnsFrom_ok h (d := s.size / 2) (m := 0) (by omega)
  simpa [turns] using this
theorem bt_oth0 {t : ByteArray} (h : t.size = 2) : bt (oth t) 0 = bt t 0 := by
  have he : (t.extract 0 1).size = 1 := by rw [ByteArray.size_extract]; omega
  have hz := oth_size h
  rw [show ((0 : Int)) = ((0 : Nat) : Int) from rfl, bt_nat (s := oth t) (by omega), bt_nat (by omega)]
  unfold oth
  rw [ByteArray.getElem_append_left (by omega), ByteArray.getElem_extract]
theorem bt_oth1 {t : ByteArray} (h : t.size = 2) : bt (oth t) 1 = if bt t 1 = 108 then 114 else 108 := by
  have he : (t.extract 0 1).size = 1 := by rw [ByteArray.size_extract]; omega
  have hz := oth_size h
  have h1 := bt_nat (s := oth t) (i := 1) (by omega)
  rw [show bt (oth t) 1 = bt (oth t) ((1 : Nat) : Int) from rfl, h1]
  unfold oth
  rw [ByteArray.getElem_append_right (by omega)]
  simp only [he]
  split <;> rfl
theorem ok_oth {t : ByteArray} (h : Ok t) : Ok (oth t) := by
  obtain ⟨h1, h2, h3⟩ := h
  refine ⟨oth_size h1, by rw [bt_oth0 h1]; exact h2, ?_⟩
  rw [bt_oth1 h1]
  split <;> simp
theorem tr_oth {t : ByteArray} (h : Ok t) : tr (oth t) = inv (tr t) := by
  obtain ⟨h1, h2, h3⟩ := h
  unfold tr inv
  rw [bt_oth0 h1, bt_oth1 h1]
  by_cases c : bt t 1 = 108 <;> simp [c]
theorem undo_some {a b : ByteArray} (ha : Ok a) (hb : Ok b) : spec_l03Undo.f a b = some (decide (tr a = inv (tr b))) := by
  obtain ⟨h1, h2, h3⟩ := ha
  obtain ⟨g1, g2, g3⟩ := hb
  unfold spec_l03Undo.f
  rw [if_pos (by omega), if_pos (by omega)]
  by_cases c : bt a 0 = bt b 0
  · rw [if_pos c, if_pos (by omega), if_pos (by omega)]
    unfold tr inv
    rcases h3 with h3 | h3 <;> rcases g3 with g3 | g3 <;> simp [c, h3, g3]
  · rw [if_neg c]
    simp [tr, inv, c]
theorem join_empty (l : List ByteArray) : Go.Lib.join (l.map (·.data.toList)) (⟨#[]⟩ : ByteArray).data.toList = (l.map (·.data.toList)).flatten := by
  cases l with
  | nil => rfl
  | cons x r =>
    rw [List.map_cons, Go.Lib.join_cons]
    unfold Go.Lib.joinTail
    simp [Function.comp_def]
theorem flat_len (l : List ByteArray) (hw : ∀ c ∈ l, Ok c) : ((l.map (·.data.toList)).flatten).length = 2 * l.length := by
  induction l with
  | nil => rfl
  | cons x r ih =>
    have h1 : x.data.toList.length = 2 := by
      have := (hw x (List.mem_cons_self ..)).1
      rw [Array.length_toList]
      exact this
    rw [List.map_cons, List.flatten_cons, List.length_append, ih (fun c hc => hw c (List.mem_cons_of_mem _ hc)), h1, List.length_cons]
    omega
theorem joined_loop (l : List ByteArray) (hw : ∀ c ∈ l, Ok c) (hl : l.length ≤ 10000) (d : Nat) : ∀ (j : Nat) (acc : ByteArray), l.length = j + d → acc.size ≤ 2 * j →
    ∃ r : ByteArray, r.data.toList = acc.data.toList ++ ((l.drop j).map (·.data.toList)).flatten ∧ Ev (fun k => spec_l03Joined.l0 k l acc (j : Int)) r := by
  induction d with
  | zero =>
    intro j acc hj ha
    refine ⟨acc, by rw [List.drop_of_length_le (by omega)]; simp, Ev.step (f := fun _ => some acc) (fun k => ?_) (Ev.now _)⟩
    simp only [spec_l03Joined.l0]
    rw [if_neg (by omega)]
  | succ d ih =>
    intro j acc hj ha
    have hlt : j < l.length := by omega
    have h2 : l[j].size = 2 := (hw _ (List.getElem_mem hlt)).1
    have hw1 : wrap64 ((j : Int) + 1) = ((j + 1 : Nat) : Int) := by unfold wrap64; omega
    obtain ⟨r, h1, h3⟩ := ih (j + 1) (acc ++ l[j]) (by omega) (by rw [ByteArray.size_append]; omega)
    refine ⟨r, ?_, Ev.step (fun k => ?_) h3⟩
    · rw [h1, List.drop_eq_getElem_cons hlt, List.map_cons, List.flatten_cons]
      simp
    · simp only [spec_l03Joined.l0, rd_at hlt]
      rw [if_pos (by omega), if_pos (by omega), if_pos (by omega), hw1]
theorem undo_loop (l : List ByteArray) (hw : ∀ c ∈ l, Ok c) (hl : l.length ≤ 10000) (d : Nat) : ∀ (j : Nat) (out : List ByteArray), l.length = j + d → out.length ≤ j → (∀ c ∈ out, Ok c) →
    ∃ r q : ByteArray, q.toList = r.toList ∧ Ev (fun k => spec_UndoWord.l0 k l out (j : Int)) (r, 0) ∧ Ev (fun k => impl_UndoWord.l0 k out l (l.length : Int) (j : Int)) (q, 0) := by
  induction d with
  | zero =>
    intro j out hj ho hok
    obtain ⟨r, h1, h2⟩ := joined_loop out hok (by omega) out.length 0 ⟨#[]⟩ (by omega) (Nat.le_refl 0)
    have hj2 : strings_Join.f out (⟨#[]⟩ : ByteArray) = some ⟨((out.map (·.data.toList)).flatten).toArray⟩ := by
      unfold strings_Join.f
      rw [join_empty, if_pos ⟨by omega, by rw [flat_len out hok]; omega⟩]
    refine ⟨r, ⟨((out.map (·.data.toList)).flatten).toArray⟩, ?_, Ev.step (f := fun k => (spec_l03Joined.f k out).bind fun t => some (t, 0)) (fun k => ?_) (Ev.bind h2 (Ev.now _)), Ev.step (f := fun k => some ((⟨((out.map (·.data.toList)).flatten).toArray⟩ : ByteArray), (0 : Int))) (fun k => ?_) (Ev.now _)⟩
    · rw [toList_eq, toList_eq, h1]
      simp
    · simp only [spec_UndoWord.l0]
      rw [if_neg (by omega)]
    · simp only [impl_UndoWord.l0]
      rw [if_neg (by omega), hj2]
      rfl
  | succ d ih =>
    intro j out hj ho hok
    have hlt : j < l.length := by omega
    have ht := hw _ (List.getElem_mem hlt)
    have hw1 : wrap64 ((j : Int) + 1) = ((j + 1 : Nat) : Int) := by unfold wrap64; omega
    have happ : ∀ c ∈ out ++ [l[j]], Ok c := by
      intro c hc
      rcases List.mem_append.1 hc with h | h
      · exact hok c h
      · rw [List.mem_singleton.1 h]; exact ht
    by_cases h0 : 0 < out.length
    · obtain ⟨n, hn⟩ : ∃ n : Nat, out.length = n + 1 := ⟨out.length - 1, by omega⟩
      have hw2 : wrap64 ((out.length : Int) - 1) = (n : Int) := by unfold wrap64; omega
      have hnlt : n < out.length := by omega
      have hc := hok _ (List.getElem_mem hnlt)
      have hu := undo_some hc ht
      have ho2 := impl_oth ht.1
      have key : out[n].toList = (oth l[j]).toList ↔ tr out[n] = inv (tr l[j]) := by
        constructor
        · intro h
          rw [toList_inj h, tr_oth ht]
        · intro h
          rw [← tr_oth ht] at h
          rw [tr_inj hc (ok_oth ht) h]
      by_cases c : tr out[n] = inv (tr l[j])
      · obtain ⟨r, q, e, h1, h2⟩ := ih (j + 1) (out.take n) (by omega) (by rw [List.length_take]; omega) (fun c hc => hok c (List.mem_of_mem_take hc))
        refine ⟨r, q, e, Ev.step (fun k => ?_) h1, Ev.step (fun k => ?_) h2⟩
        · simp only [spec_UndoWord.l0, hw2, rd_at hlt, rd_at hnlt, hu, decide_eq_true c, Option.bind_some, if_true, Int.toNat_natCast]
          rw [if_pos (by omega), if_pos (by omega), if_pos (by omega), if_pos (by omega), if_pos (by omega), if_pos (by omega), hw1]
        · simp only [impl_UndoWord.l0, hw2, rd_at hlt, rd_at hnlt, ho2, Option.bind_some, Int.toNat_natCast]
          rw [if_pos (by omega), if_pos (by omega), if_pos (by omega), if_pos (by omega), if_pos (by omega), if_pos (by omega), if_pos (key.2 c), if_pos (by omega), hw1]
      · obtain ⟨r, q, e, h1, h2⟩ := ih (j + 1) (out ++ [l[j]]) (by omega) (by simp; omega) happ
        refine ⟨r, q, e, Ev.step (fun k => ?_) h1, Ev.step (fun k => ?_) h2⟩
        · simp only [spec_UndoWord.l0, hw2, rd_at hlt, rd_at hnlt, hu, decide_eq_false c, Option.bind_some, Bool.false_eq_true, if_false]
          rw [if_pos (by omega), if_pos (by omega), if_pos (by omega), if_pos (by omega), if_pos (by omega), if_pos (by omega), hw1]
        · simp only [impl_UndoWord.l0, hw2, rd_at hlt, rd_at hnlt, ho2, Option.bind_some]
          rw [if_pos (by omega), if_pos (by omega), if_pos (by omega), if_pos (by omega), if_pos (by omega), if_pos (by omega), if_neg (fun h => c (key.1 h)), if_pos (by omega), hw1]
    · obtain ⟨r, q, e, h1, h2⟩ := ih (j + 1) (out ++ [l[j]]) (by omega) (by simp; omega) happ
      refine ⟨r, q, e, Ev.step (fun k => ?_) h1, Ev.step (fun k => ?_) h2⟩
      · simp only [spec_UndoWord.l0, rd_at hlt]
        rw [if_pos (by omega), if_neg (by omega), if_pos (by omega), if_pos (by omega), hw1]
      · simp only [impl_UndoWord.l0, rd_at hlt]
        rw [if_pos (by omega), if_pos (by omega), if_pos (by omega), if_neg (by omega), if_pos (by omega), hw1]

theorem FnExactUndoWord : laws_FnExactUndoWord.Pure := by
  intro s hn
  refine Ev.rounds ?_
  by_cases hbig : (s.size : Int) > 1048576
  · refine Ev.congr (f := fun _ => some true) (fun k => ?_) (Ev.now _)
    unfold laws_FnExactUndoWord.f
    rw [if_pos hbig]
  · obtain ⟨b, hb, hb'⟩ := spec_word s hn
    obtain ⟨c, hc, hc'⟩ := impl_word s hn
    have e : c = b := by rw [Bool.eq_iff_iff, hb', hc']
    subst e
    have eb : Ev (fun k => spec_l03Word.f k s) c := ⟨s.size + 1, fun k hk => hb k (by omega)⟩
    have ec : Ev (fun k => impl_ValidWord.f k s) c := ⟨s.size + 2, fun k hk => hc k (by omega)⟩
    simp only [laws_FnExactUndoWord.f, if_neg hbig, spec_UndoWord.f, impl_UndoWord.f]
    by_cases h : Word s
    · have hl := turns_length (s := s)
      obtain ⟨r, q, h1, h2, h3⟩ := undo_loop (turns s) (turns_ok h) (by have := h.2.2; omega) (turns s).length 0 [] (by omega) (by simp) (fun c hc => by cases hc)
      rw [hb'.2 h] at eb ec
      refine Ev.bind (a := (r, (0 : Int))) (Ev.bind eb ?_) (Ev.bind (a := (q, (0 : Int))) (Ev.bind ec ?_) ?_)
      · simp only [if_true]
        exact Ev.bind (⟨s.size + 1, fun k hk => spec_turns s h k (by omega)⟩) h2
      · simp only [if_true]
        exact Ev.bind (⟨s.size + 1, fun k hk => impl_turns s h k (by omega)⟩) h3
      · simp only [h1, if_true]
        exact Ev.now _
    · have e : c = false := by
        cases c
        · rfl
        · exact absurd (hb'.1 rfl) h
      rw [e] at eb ec
      refine Ev.bind (a := ((⟨#[]⟩ : ByteArray), (1 : Int))) (Ev.bind eb (Ev.now _)) (Ev.bind (a := ((⟨#[]⟩ : ByteArray), (1 : Int))) (Ev.bind ec (Ev.now _)) ?_)
      simp only [if_true]
      exact Ev.now _

end Go.Proofs.Ytmdcndpnbljpfaa.Pure
