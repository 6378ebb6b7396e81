/- ReadBay of the program returns what the reference's returns, for all texts. Conditions: none. -/
import Derived.Test.YteffdjfiialdfaaDoorPFnExactReadBayx5
namespace Go.Proofs.YteffdjfiialdfaaDoor.Pure
open Go.RowKit Go.Proofs.YteffdjfiialdfaaDoor.PFnExactReadBay Go.Proofs.YteffdjfiialdfaaDoorW.PrintWords Go.Proofs.YteffdjfiialdfaaDoorW.PrintLast
set_option linter.unusedVariables false
set_option linter.unusedSimpArgs false

/-- What is known of a bay that came in. -/
def FitB (a b : Int) (d : Nat → Int) : Prop := (-128 ≤ a ∧ a ≤ 127) ∧ (-128 ≤ b ∧ b ≤ 127) ∧ ∀ i, i < 256 → -128 ≤ d i ∧ d i ≤ 127
theorem i8w (n : Int) (h : 0 ≤ n) (h2 : n ≤ 127) : IntKind.i8.wrap n = n := Bay.i8_wrap_le n h h2
/-- It answers whether P holds, and hands the bay back. -/
def EvR (a b : Int) (d : Nat → Int) (f : Nat → Option (Bool × Int × Int × (Nat → Int))) (P : Prop) : Prop := ∃ r : Bool, Ev f (r, a, b, d) ∧ (r = true ↔ P)
theorem EvR.step {a b : Int} {d : Nat → Int} {f g : Nat → Option (Bool × Int × Int × (Nat → Int))} {P : Prop} (h : ∀ k, g (k + 1) = f k) (k : EvR a b d f P) : EvR a b d g P := by
  obtain ⟨r, h1, h2⟩ := k
  exact ⟨r, Ev.step h h1, h2⟩
theorem EvR.iff {a b : Int} {d : Nat → Int} {f : Nat → Option (Bool × Int × Int × (Nat → Int))} {P Q : Prop} (k : EvR a b d f P) (e : P ↔ Q) : EvR a b d f Q := by
  obtain ⟨r, h1, h2⟩ := k
  exact ⟨r, h1, h2.trans e⟩
theorem EvR.no {a b : Int} {d : Nat → Int} {P : Prop} (h : ¬ P) : EvR a b d (fun _ => some (false, a, b, d)) P := ⟨false, Ev.now _, by simp [h]⟩
theorem EvR.yes {a b : Int} {d : Nat → Int} {P : Prop} (h : P) : EvR a b d (fun _ => some (true, a, b, d)) P := ⟨true, Ev.now _, by simp [h]⟩
theorem in_some (a b c : Int) : spec_l00In.f a b c = some (decide (b ≤ a ∧ a ≤ c)) := by
  unfold spec_l00In.f
  by_cases h : a ≥ b
  · rw [if_pos h]; simp [h]
  · rw [if_neg h, decide_eq_false (fun q => h q.1)]
theorem w64 {n : Int} (h : -9223372036854775808 ≤ n ∧ n ≤ 9223372036854775807) : wrap64 n = n := by unfold wrap64; omega
theorem is_some {a b : Int} {d : Nat → Int} (hf : FitB a b d) (x y : Int) (hx : -128 ≤ x ∧ x ≤ 127) (hy : -128 ≤ y ∧ y ≤ 127) : spec_l01Is.f a b d x y = some (decide ((0 ≤ x ∧ x < a) ∧ (0 ≤ y ∧ y < b)), a, b, d) := by
  unfold spec_l01Is.f
  have := hf.1
  have := hf.2.1
  rw [w64 (n := x) (by omega), w64 (n := y) (by omega), w64 (n := a) (by omega), w64 (n := b) (by omega), w64 (n := a - 1) (by omega), w64 (n := b - 1) (by omega), in_some, in_some]
  simp only [Option.bind_some]
  by_cases h1 : 0 ≤ x ∧ x ≤ a - 1
  · rw [decide_eq_true h1, if_pos rfl]
    congr 2
    rw [decide_eq_decide]
    omega
  · rw [decide_eq_false h1, if_neg (by decide)]
    congr 2
    rw [eq_comm, decide_eq_false_iff_not]
    omega
theorem okD_cell {a b : Int} {d : Nat → Int} (hf : FitB a b d) (y x : Nat) (hy : y < 16) (hx : x < 16) {f : Nat → Option (Bool × Int × Int × (Nat → Int))} {P : Prop} (k : EvR a b d f P) :
    EvR a b d (fun g => (spec_l00In.f (wrap64 (d (16 * y + x))) 0 30).bind fun t => (if t = true then (if d (16 * y + x) = 0 then f g else ((spec_l01Is.f a b d x y).bind fun q => (if q.1 = true then f g else (some (false, q.2.1, q.2.2.1, q.2.2.2))))) else (some (false, a, b, d)))) (BayIn.okD a b y x (d (16 * y + x)) ∧ P) := by
  have hd := hf.2.2 (16 * y + x) (by omega)
  rw [w64 (by omega)]
  simp only [in_some, is_some hf x y (by omega) (by omega), Option.bind_some]
  unfold BayIn.okD
  by_cases h1 : 0 ≤ d (16 * y + x) ∧ d (16 * y + x) ≤ 30
  · simp only [decide_eq_true h1, if_true]
    by_cases h2 : d (16 * y + x) = 0
    · simp only [if_pos h2]
      exact k.iff ⟨fun h => ⟨⟨h1.1, h1.2, fun q => absurd h2 q⟩, h⟩, fun h => h.2⟩
    · simp only [if_neg h2]
      by_cases h3 : (0 ≤ (x : Int) ∧ (x : Int) < a) ∧ (0 ≤ (y : Int) ∧ (y : Int) < b)
      · simp only [decide_eq_true h3, if_true]
        exact k.iff ⟨fun h => ⟨⟨h1.1, h1.2, fun _ => ⟨h3.1.2, h3.2.2⟩⟩, h⟩, fun h => h.2⟩
      · simp only [decide_eq_false h3, Bool.false_eq_true, if_false]
        exact EvR.no (fun h => h3 (by have := h.1.2.2 h2; omega))
  · simp only [decide_eq_false h1, Bool.false_eq_true, if_false]
    exact EvR.no (fun h => h1 ⟨h.1.1, h.1.2.1⟩)
theorem bay_row {a b : Int} {d : Nat → Int} (hf : FitB a b d) (y : Nat) (hy : y < 16) {P : Prop} (k : EvR a b d (fun g => spec_l01Bay.l0 g ((y + 1 : Nat) : Int) a b d) P) (n : Nat) : ∀ x : Nat, 16 = x + n →
    EvR a b d (fun g => spec_l01Bay.l1 g (y : Int) (x : Int) a b d) ((∀ j, x ≤ j → j < 16 → BayIn.okD a b y j (d (16 * y + j))) ∧ P) := by
  induction n with
  | zero =>
    intro x hx
    refine (EvR.step (fun g => ?_) k).iff ⟨fun h => ⟨fun j h1 h2 => by omega, h⟩, fun h => h.2⟩
    simp only [spec_l01Bay.l1]
    rw [if_neg (by omega), i8w _ (by omega) (by omega)]
    rfl
  | succ n ih =>
    intro x hx
    refine (EvR.step (fun g => ?_) (okD_cell hf y x hy (by omega) (ih (x + 1) (by omega)))).iff ?_
    · simp only [spec_l01Bay.l1]
      rw [if_pos (by omega), if_pos (by omega), if_pos (by omega), if_pos (by omega), i8w _ (by omega) (by omega), Int.toNat_natCast, Int.toNat_natCast]
      rw [is_some hf x y (by omega) (by omega)]
      rfl
    · refine ⟨fun h => ⟨fun j h1 h2 => ?_, h.2.2⟩, fun h => ⟨h.1 x (Nat.le_refl _) (by omega), fun j h1 h2 => h.1 j (by omega) h2, h.2⟩⟩
      by_cases e : j = x
      · rw [e]; exact h.1
      · exact h.2.1 j (by omega) h2
theorem bay_rows {a b : Int} {d : Nat → Int} (hf : FitB a b d) (n : Nat) : ∀ y : Nat, 16 = y + n → EvR a b d (fun g => spec_l01Bay.l0 g (y : Int) a b d) (∀ j, y ≤ j → j < 16 → ∀ x, x < 16 → BayIn.okD a b j x (d (16 * j + x))) := by
  induction n with
  | zero =>
    intro y hy
    refine EvR.step (fun g => ?_) (EvR.yes (fun j h1 h2 => by omega))
    simp only [spec_l01Bay.l0]
    rw [if_neg (by omega)]
  | succ n ih =>
    intro y hy
    refine (EvR.step (fun g => ?_) (bay_row hf y (by omega) (ih (y + 1) (by omega)) 16 0 (by omega))).iff ?_
    · simp only [spec_l01Bay.l0]
      rw [if_pos (by omega)]
      rfl
    · refine ⟨fun h j h1 h2 x hx => ?_, fun h => ⟨fun x _ hx => h y (Nat.le_refl _) (by omega) x hx, fun j h1 h2 => h j (by omega) h2⟩⟩
      by_cases e : j = y
      · rw [e]; exact h.1 x (by omega) hx
      · exact h.2 j (by omega) h2 x hx
/-- The reference's word on a bay. -/
theorem spec_bay {a b : Int} {d : Nat → Int} (hf : FitB a b d) : EvR a b d (fun g => spec_l01Bay.f g a b d) (BayIn.okBay a b d) := by
  have h1 := hf.1
  have h2 := hf.2.1
  have e : ∀ g, spec_l01Bay.f g a b d = spec_l01Bay.j0 g (! decide ((1 ≤ a ∧ a ≤ 16) ∧ (1 ≤ b ∧ b ≤ 16))) a b d := by
    intro g
    unfold spec_l01Bay.f
    rw [w64 (n := a) (by omega), w64 (n := b) (by omega), in_some, in_some]
    simp only [Option.bind_some]
    by_cases c1 : 1 ≤ a ∧ a ≤ 16
    · by_cases c2 : 1 ≤ b ∧ b ≤ 16 <;> simp [c1, c2]
    · simp [c1]
  obtain ⟨r, k1, k2⟩ := bay_rows hf 16 0 (by omega)
  unfold BayIn.okBay
  by_cases c : (1 ≤ a ∧ a ≤ 16) ∧ (1 ≤ b ∧ b ≤ 16)
  · rw [decide_eq_true c] at e
    refine ⟨r, Ev.congr e (Ev.step (fun g => by simp only [spec_l01Bay.j0, Bool.not_true, Bool.false_eq_true, if_false]; rfl) k1), k2.trans ?_⟩
    exact ⟨fun h => ⟨c.1.1, c.1.2, c.2.1, c.2.2, fun y hy => h y (Nat.zero_le _) hy⟩, fun h j _ hj => h.2.2.2.2 j hj⟩
  · rw [decide_eq_false c] at e
    refine ⟨false, Ev.congr e (Ev.step (f := fun _ => some (false, a, b, d)) (fun g => by simp only [spec_l01Bay.j0, Bool.not_false, if_true]) (Ev.now _)), ?_⟩
    simp only [Bool.false_eq_true, false_iff]
    intro h
    exact c ⟨⟨h.1, h.2.1⟩, h.2.2.1, h.2.2.2.1⟩

theorem toList_loop (s : ByteArray) (d : Nat) : ∀ (i : Nat) (r : List UInt8), s.size = i + d → ByteArray.toList.loop s i r = r.reverse ++ s.data.toList.drop i := by
  induction d with
  | zero =>
    intro i r h
    rw [ByteArray.toList.loop, if_neg (by omega), List.drop_of_length_le (by rw [Array.length_toList]; exact Nat.le_of_eq h)]
    simp
  | succ d ih =>
    intro i r h
    have hl : i < s.data.toList.length := by rw [Array.length_toList]; show i < s.size; omega
    rw [ByteArray.toList.loop, if_pos (by omega), ih (i + 1) _ (by omega), List.drop_eq_getElem_cons hl]
    have e : s.get! i = s.data.toList[i] := by
      show s.data[i]! = _
      rw [getElem!_pos s.data i (by simpa using hl)]
      simp
    rw [e]
    simp
theorem toList_eq (s : ByteArray) : s.toList = s.data.toList := by
  unfold ByteArray.toList
  rw [toList_loop s s.size 0 [] (by omega)]
  simp
theorem toList_inj {a b : ByteArray} (h : a.toList = b.toList) : a = b := by
  rw [toList_eq, toList_eq] at h
  exact ByteArray.ext (Array.toList_inj.1 h)

def sp (c : UInt8) : List UInt8 → List (List UInt8)
  | [] => [[]]
  | b :: r => if b = c then [] :: sp c r else ((b :: (sp c r).headD []) :: (sp c r).tail)
theorem sp_ne (c : UInt8) (s : List UInt8) : ∃ p ps, sp c s = p :: ps := by
  cases s with
  | nil => exact ⟨[], [], rfl⟩
  | cons b r =>
    unfold sp
    by_cases h : b = c
    · rw [if_pos h]; exact ⟨_, _, rfl⟩
    · rw [if_neg h]; exact ⟨_, _, rfl⟩
theorem sp_app (c : UInt8) (x : List UInt8) (hx : ∀ b ∈ x, b ≠ c) (r p : List UInt8) (ps : List (List UInt8)) (h : sp c r = p :: ps) : sp c (x ++ r) = (x ++ p) :: ps := by
  induction x with
  | nil => exact h
  | cons b x ih =>
    have := ih (fun y hy => hx y (List.mem_cons_of_mem _ hy))
    rw [List.cons_append, sp, if_neg (hx b (List.mem_cons_self ..)), this]
    rfl
theorem sp_none (c : UInt8) (x : List UInt8) (hx : ∀ b ∈ x, b ≠ c) : sp c x = [x] := by
  have := sp_app c x hx [] [] [] rfl
  rwa [List.append_nil] at this
theorem sp_len (c : UInt8) (s : List UInt8) : 1 ≤ (sp c s).length ∧ (sp c s).length ≤ s.length + 1 := by
  induction s with
  | nil => exact ⟨Nat.le_refl _, Nat.le_refl _⟩
  | cons b r ih =>
    unfold sp
    by_cases h : b = c
    · rw [if_pos h, List.length_cons, List.length_cons]; omega
    · rw [if_neg h, List.length_cons, List.length_tail, List.length_cons]; omega
theorem sp_mem (c : UInt8) (s : List UInt8) : ∀ p ∈ sp c s, (∀ b ∈ p, b ≠ c) ∧ p.length ≤ s.length := by
  induction s with
  | nil =>
    intro p hp
    rw [List.mem_singleton.1 hp]
    exact ⟨fun b hb => (by cases hb), Nat.le_refl _⟩
  | cons b r ih =>
    intro p hp
    obtain ⟨q, qs, hq⟩ := sp_ne c r
    rw [hq] at ih
    unfold sp at hp
    by_cases h : b = c
    · rw [if_pos h] at hp
      rcases List.mem_cons.1 hp with rfl | hp
      · exact ⟨fun b hb => (by cases hb), Nat.zero_le _⟩
      · rw [hq] at hp
        have := ih p hp
        exact ⟨this.1, by rw [List.length_cons]; omega⟩
    · rw [if_neg h, hq] at hp
      rcases List.mem_cons.1 hp with rfl | hp
      · have := ih q (List.mem_cons_self ..)
        refine ⟨fun y hy => ?_, ?_⟩
        · rcases List.mem_cons.1 hy with rfl | hy
          · exact h
          · exact this.1 y hy
        · show q.length + 1 ≤ r.length + 1
          omega
      · have := ih p (List.mem_cons_of_mem _ hp)
        exact ⟨this.1, by rw [List.length_cons]; omega⟩
theorem index_cons1 (b c : UInt8) (l : List UInt8) : Go.Lib.index (b :: l) [c] = if b = c then 0 else if Go.Lib.index l [c] = -1 then -1 else Go.Lib.index l [c] + 1 := by
  rw [Go.Lib.index]
  by_cases h : b = c
  · subst h
    simp [List.isPrefixOf]
  · have : ([c] : List UInt8).isPrefixOf (b :: l) = false := by simp [List.isPrefixOf, Ne.symm h]
    rw [this, if_neg h]
    by_cases h2 : Go.Lib.index l [c] = -1
    · simp [h2]
    · simp [h2]
theorem splitK_sp (c : UInt8) (l : List UInt8) : Go.Lib.splitK [c] 0 (Go.Lib.count l [c]) l = sp c l := by
  induction l with
  | nil => rfl
  | cons b l ih =>
    by_cases h : b = c
    · subst h
      rw [Go.Lib.count_cons_eq, Nat.add_comm 1, Go.Lib.splitK, index_cons1, if_pos rfl, sp, if_pos rfl, ← ih]
      rfl
    · rw [Go.Lib.count_cons_ne b c l h, sp, if_neg h]
      have hge := Go.Lib.index_ge l [c]
      by_cases hm : Go.Lib.index l [c] = -1
      · have h0 := Go.Lib.count_miss hm
        rw [h0] at ih ⊢
        have e : sp c l = [l] := ih.symm
        rw [e]
        rfl
      · obtain ⟨j, hj⟩ : ∃ j : Nat, Go.Lib.index l [c] = j := ⟨(Go.Lib.index l [c]).toNat, by omega⟩
        have h1 := Go.Lib.count_hit (s := l) (sub := [c]) (by simp) hj
        rw [h1, Nat.add_comm 1] at ih ⊢
        rw [Go.Lib.splitK] at ih ⊢
        rw [index_cons1, if_neg h, if_neg hm, hj]
        rw [hj] at ih
        have e1 : ((j : Int) == -1) = false := by rw [beq_eq_false_iff_ne]; omega
        have e2 : ((j : Int) + 1 == -1) = false := by rw [beq_eq_false_iff_ne]; omega
        rw [e1] at ih
        rw [e2]
        simp only [Bool.false_eq_true, if_false] at ih ⊢
        have e3 : ((j : Int) + 1).toNat = j + 1 := by omega
        rw [e3, ← ih]
        simp [Int.toNat_natCast]
theorem byte_at {s : ByteArray} {i : Nat} (h : i < s.size) : bt s (i : Int) = ((s.data.toList[i]'(by simpa using h)).toNat : Int) := by
  rw [← bt_at s (i : Int) (by simpa using h)]
  simp
  rfl
theorem ba_ext {a b : ByteArray} (h : a.data.toList = b.data.toList) : a = b := toList_inj (by rw [toList_eq, toList_eq, h])
theorem map_inj {a b : List ByteArray} (h : a.map (·.data.toList) = b.map (·.data.toList)) : a = b := by
  induction a generalizing b with
  | nil => cases b with
    | nil => rfl
    | cons y b => cases h
  | cons x a ih => cases b with
    | nil => cases h
    | cons y b =>
      rw [List.map_cons, List.map_cons] at h
      injection h with h1 h2
      rw [ba_ext h1, ih h2]
theorem extract_data (s : ByteArray) (a b : Nat) : (s.extract a b).data.toList = (s.data.toList.take b).drop a := by
  simp [ByteArray.data_extract, List.drop_take]
theorem spec_split_loop (s : ByteArray) (c : UInt8) (hs : s.size ≤ 10000000) (d : Nat) : ∀ (j b : Nat) (out : List ByteArray), s.size = j + d → b ≤ j → out.length ≤ b → (∀ y ∈ (s.data.toList.take j).drop b, y ≠ c) →
    ∃ t : List ByteArray, t.map (·.data.toList) = out.map (·.data.toList) ++ sp c (s.data.toList.drop b) ∧ Ev (fun k => spec_l01Split.l0 k s (c.toNat : Int) out (b : Int) (j : Int)) t := by
  have hsz : s.data.toList.length = s.size := by simp
  induction d with
  | zero =>
    intro j b out hj hb ho hn
    refine ⟨out ++ [s.extract b s.size], ?_, Ev.step (f := fun _ => some (out ++ [s.extract b s.size])) (fun k => ?_) (Ev.now _)⟩
    · rw [List.map_append, List.map_singleton, extract_data]
      have e : s.data.toList.take s.size = s.data.toList := List.take_of_length_le (by omega)
      rw [List.take_of_length_le (by omega)] at hn
      rw [e, sp_none c _ hn]
    · simp only [spec_l01Split.l0]
      rw [if_neg (by omega), if_pos (by omega), if_pos (by omega), if_pos (by omega), Int.toNat_natCast]
  | succ d ih =>
    intro j b out hj hb ho hn
    have hlt : j < s.size := by omega
    have hlt2 : j < s.data.toList.length := by omega
    have hbt := byte_at hlt
    have hw1 : wrap64 ((j : Int) + 1) = ((j + 1 : Nat) : Int) := by unfold wrap64; omega
    by_cases hc : s.data.toList[j] = c
    · obtain ⟨t, h1, h2⟩ := ih (j + 1) (j + 1) (out ++ [s.extract b j]) (by omega) (Nat.le_refl _) (by rw [List.length_append, List.length_singleton]; omega) (by intro y hy; rw [List.drop_of_length_le (by rw [List.length_take]; omega)] at hy; cases hy)
      refine ⟨t, ?_, Ev.step (fun k => ?_) h2⟩
      · rw [h1, List.map_append, List.map_singleton, extract_data, List.append_assoc, List.singleton_append]
        congr 1
        have e : s.data.toList.drop b = (s.data.toList.take j).drop b ++ s.data.toList.drop j := by
          rw [← List.drop_append_of_le_length (by rw [List.length_take]; omega), List.take_append_drop]
        rw [e, List.drop_eq_getElem_cons hlt2]
        have e2 : sp c (s.data.toList[j] :: s.data.toList.drop (j + 1)) = [] :: sp c (s.data.toList.drop (j + 1)) := by rw [sp, if_pos hc]
        rw [sp_app c _ hn _ _ _ e2, List.append_nil]
      · simp only [spec_l01Split.l0]
        rw [if_pos (by omega), if_pos (by omega), if_pos (by rw [hbt, hc]), if_pos (by omega), if_pos (by omega), if_pos (by omega), if_pos (by omega), hw1, Int.toNat_natCast, Int.toNat_natCast]
    · obtain ⟨t, h1, h2⟩ := ih (j + 1) b out (by omega) (by omega) ho (by
        intro y hy
        rw [List.take_succ_eq_append_getElem hlt2, List.drop_append_of_le_length (by rw [List.length_take]; omega)] at hy
        rcases List.mem_append.1 hy with h | h
        · exact hn y h
        · rw [List.mem_singleton.1 h]; exact hc)
      refine ⟨t, h1, Ev.step (fun k => ?_) h2⟩
      simp only [spec_l01Split.l0]
      rw [if_pos (by omega), if_pos (by omega), if_neg (by rw [hbt]; intro h; exact hc (UInt8.toNat_inj.1 (by omega))), hw1]
/-- Both words split a text alike. -/
theorem both_split (s : ByteArray) (c : UInt8) (hs : s.size ≤ 10000000) : ∃ t : List ByteArray, t.map (·.data.toList) = sp c s.data.toList ∧ Ev (fun k => spec_l01Split.f k s (c.toNat : Int)) t ∧ strings_Split.f s (⟨#[c]⟩ : ByteArray) = some t := by
  obtain ⟨t, h1, h2⟩ := spec_split_loop s c hs s.size 0 0 [] (by omega) (Nat.le_refl _) (Nat.le_refl _) (by intro y hy; cases hy)
  rw [List.drop_zero, List.map_nil, List.nil_append] at h1
  refine ⟨t, h1, h2, ?_⟩
  have h3 : (Go.Lib.splitB (⟨#[c]⟩ : ByteArray) 0 (Go.Lib.countB s (⟨#[c]⟩ : ByteArray)) s).map (·.data.toList) = sp c s.data.toList := by
    rw [Go.Lib.splitB_data]
    exact splitK_sp c _
  unfold strings_Split.f
  rw [if_pos ⟨by omega, Nat.le_refl _⟩, map_inj (h3.trans h1.symm)]
def digit (b : UInt8) : Bool := decide (48 ≤ b.toNat) && decide (b.toNat ≤ 57)
def val (l : List UInt8) : Nat := l.foldl (fun n b => 10 * n + (b.toNat - 48)) 0
theorem val_snoc (l : List UInt8) (b : UInt8) : val (l ++ [b]) = 10 * val l + (b.toNat - 48) := by unfold val; rw [List.foldl_append]; rfl
/-- A number without a leading zero. -/
def numOk (l : List UInt8) : Bool := decide (l ≠ []) && !(decide (l.head? = some 48) && decide (1 < l.length)) && l.all digit
def numR (n : Nat) (s : ByteArray) : Int × Bool := if numOk s.data.toList = true ∧ s.size ≤ n then ((val s.data.toList : Int), true) else (0, false)
theorem fold_lt (l : List UInt8) (h : l.all digit = true) : ∀ n : Nat, l.foldl (fun n b => 10 * n + (b.toNat - 48)) n < (n + 1) * 10 ^ l.length := by
  induction l with
  | nil => intro n; rw [List.foldl_nil, List.length_nil]; omega
  | cons b l ih =>
    intro n
    rw [List.all_cons, Bool.and_eq_true] at h
    have h2 := h.1
    unfold digit at h2
    simp only [Bool.and_eq_true, decide_eq_true_eq] at h2
    have h3 := ih h.2 (10 * n + (b.toNat - 48))
    rw [List.foldl_cons, List.length_cons, Nat.pow_succ]
    have h4 : (10 * n + (b.toNat - 48) + 1) * 10 ^ l.length ≤ (10 * n + 10) * 10 ^ l.length := Nat.mul_le_mul_right _ (by omega)
    have h5 : (n + 1) * (10 ^ l.length * 10) = (10 * n + 10) * 10 ^ l.length := by
      rw [Nat.mul_comm (10 ^ l.length) 10, ← Nat.mul_assoc]
      congr 1
      omega
    omega
theorem fold_ge (l : List UInt8) : ∀ n : Nat, n * 10 ^ l.length ≤ l.foldl (fun n b => 10 * n + (b.toNat - 48)) n := by
  induction l with
  | nil => intro n; rw [List.foldl_nil, List.length_nil]; omega
  | cons b l ih =>
    intro n
    have h3 := ih (10 * n + (b.toNat - 48))
    rw [List.foldl_cons, List.length_cons, Nat.pow_succ]
    have h4 : (10 * n) * 10 ^ l.length ≤ (10 * n + (b.toNat - 48)) * 10 ^ l.length := Nat.mul_le_mul_right _ (by omega)
    have h5 : n * (10 ^ l.length * 10) = (10 * n) * 10 ^ l.length := by
      rw [Nat.mul_comm (10 ^ l.length) 10, ← Nat.mul_assoc]
      congr 1
      omega
    omega
theorem val_lt {l : List UInt8} (h : l.all digit = true) : val l < 10 ^ l.length := by
  have := fold_lt l h 0
  rw [Nat.zero_add, Nat.one_mul] at this
  exact this
/-- A long number is great. -/
theorem val_ge {l : List UInt8} (h : numOk l = true) (hl : 6 ≤ l.length) : 100000 ≤ val l := by
  cases l with
  | nil => simp at hl
  | cons b r =>
    unfold numOk at h
    rw [List.length_cons] at hl
    simp only [Bool.and_eq_true, decide_eq_true_eq, Bool.not_eq_true', Bool.and_eq_false_iff, List.head?_cons, List.all_cons, List.length_cons, decide_eq_false_iff_not, Option.some.injEq] at h
    obtain ⟨⟨_, h1⟩, h2, _⟩ := h
    have hb : b ≠ 48 := by
      rcases h1 with h1 | h1
      · exact h1
      · omega
    unfold digit at h2
    simp only [Bool.and_eq_true, decide_eq_true_eq] at h2
    have hb2 : b.toNat ≠ 48 := fun e => hb (UInt8.toNat_inj.1 (by rw [e]; rfl))
    have h3 := fold_ge r (10 * 0 + (b.toNat - 48))
    have h4 : (10 : Nat) ^ 5 ≤ 10 ^ r.length := Nat.pow_le_pow_right (by omega) (by omega)
    have h5 : 1 * 10 ^ r.length ≤ (10 * 0 + (b.toNat - 48)) * 10 ^ r.length := Nat.mul_le_mul_right _ (by omega)
    have h6 : val (b :: r) = r.foldl (fun n b => 10 * n + (b.toNat - 48)) (10 * 0 + (b.toNat - 48)) := rfl
    rw [h6]
    omega
theorem num_step1 (v b : Nat) (hv : v < 1000000000) (h1 : 48 ≤ b) (h2 : b ≤ 57) : wrap64 (wrap64 (10 * (v : Int)) + ((b : Int) - 48) % 256) = ((10 * v + (b - 48) : Nat) : Int) := by
  have e : wrap64 (10 * (v : Int)) = 10 * (v : Int) := by unfold wrap64; omega
  have e2 : ((b : Int) - 48) % 256 = (b : Int) - 48 := by omega
  rw [e, e2]
  unfold wrap64
  omega
theorem num_step2 (v b : Nat) (hv : v < 1000000000) (h1 : 48 ≤ b) (h2 : b ≤ 57) : wrap64 (wrap64 ((v : Int) * 10) + ((b : Int) - 48) % 256) = ((10 * v + (b - 48) : Nat) : Int) := by
  rw [Int.mul_comm]
  exact num_step1 v b hv h1 h2
theorem val_small {l : List UInt8} (h : l.all digit = true) (hl : l.length ≤ 9) : val l < 1000000000 := by
  have hv := val_lt h
  have hp : (10 : Nat) ^ l.length ≤ 10 ^ 9 := Nat.pow_le_pow_right (by omega) hl
  exact Nat.lt_of_lt_of_le hv hp
/-- The loop over the digits. -/
theorem spec_num_loop (s : ByteArray) (hs : s.size ≤ 9) (d : Nat) : ∀ j : Nat, s.size = j + d → (s.data.toList.take j).all digit = true →
    Ev (fun k => spec_l01Number.l0 k s (val (s.data.toList.take j) : Int) (j : Int)) (if s.data.toList.all digit = true then ((val s.data.toList : Int), true) else (0, false)) := by
  have hsz : s.data.toList.length = s.size := by simp
  induction d with
  | zero =>
    intro j hj ha
    rw [List.take_of_length_le (by omega)] at ha ⊢
    rw [if_pos ha]
    refine Ev.step (f := fun _ => some ((val s.data.toList : Int), true)) (fun k => ?_) (Ev.now _)
    simp only [spec_l01Number.l0]
    rw [if_neg (by omega)]
  | succ d ih =>
    intro j hj ha
    have hlt : j < s.size := by omega
    have hlt2 : j < s.data.toList.length := by omega
    have hbt := byte_at hlt
    have hw1 : wrap64 ((j : Int) + 1) = ((j + 1 : Nat) : Int) := by unfold wrap64; omega
    have hv := val_small ha (by rw [List.length_take]; omega)
    by_cases hd : digit s.data.toList[j] = true
    · have hd2 := hd
      unfold digit at hd2
      simp only [Bool.and_eq_true, decide_eq_true_eq] at hd2
      have h1 := ih (j + 1) (by omega) (by rw [List.take_succ_eq_append_getElem hlt2, List.all_append, ha]; simpa using hd)
      rw [List.take_succ_eq_append_getElem hlt2, val_snoc] at h1
      refine Ev.step (fun k => ?_) h1
      simp only [spec_l01Number.l0]
      have e := num_step1 (val (s.data.toList.take j)) s.data.toList[j].toNat hv hd2.1 hd2.2
      rw [if_pos (by omega), if_pos (by omega), hbt, if_neg (by omega), if_neg (by omega), hw1, e]
    · have hno : ¬ s.data.toList.all digit = true := fun h => hd (List.all_eq_true.1 h _ (List.getElem_mem hlt2))
      rw [if_neg hno]
      refine Ev.step (f := fun _ => some (0, false)) (fun k => ?_) (Ev.now _)
      unfold digit at hd
      simp only [Bool.and_eq_true, decide_eq_true_eq] at hd
      simp only [spec_l01Number.l0]
      rw [if_pos (by omega), if_pos (by omega), hbt]
      by_cases c : (s.data.toList[j].toNat : Int) < 48
      · rw [if_pos c]
      · rw [if_neg c, if_pos (by omega)]
theorem impl_num_loop (s : ByteArray) (hs : s.size ≤ 9) (d : Nat) : ∀ j : Nat, s.size = j + d → (s.data.toList.take j).all digit = true →
    Ev (fun k => impl_number.l0 k s (val (s.data.toList.take j) : Int) (s.size : Int) (j : Int)) (if s.data.toList.all digit = true then ((val s.data.toList : Int), true) else (0, false)) := by
  have hsz : s.data.toList.length = s.size := by simp
  induction d with
  | zero =>
    intro j hj ha
    rw [List.take_of_length_le (by omega)] at ha ⊢
    rw [if_pos ha]
    refine Ev.step (f := fun _ => some ((val s.data.toList : Int), true)) (fun k => ?_) (Ev.now _)
    simp only [impl_number.l0]
    rw [if_neg (by omega)]
  | succ d ih =>
    intro j hj ha
    have hlt : j < s.size := by omega
    have hlt2 : j < s.data.toList.length := by omega
    have hbt := byte_at hlt
    have hw1 : wrap64 ((j : Int) + 1) = ((j + 1 : Nat) : Int) := by unfold wrap64; omega
    have hv := val_small ha (by rw [List.length_take]; omega)
    by_cases hd : digit s.data.toList[j] = true
    · have hd2 := hd
      unfold digit at hd2
      simp only [Bool.and_eq_true, decide_eq_true_eq] at hd2
      have h1 := ih (j + 1) (by omega) (by rw [List.take_succ_eq_append_getElem hlt2, List.all_append, ha]; simpa using hd)
      rw [List.take_succ_eq_append_getElem hlt2, val_snoc] at h1
      refine Ev.step (fun k => ?_) h1
      simp only [impl_number.l0]
      have e := num_step2 (val (s.data.toList.take j)) s.data.toList[j].toNat hv hd2.1 hd2.2
      rw [if_pos (by omega), if_pos (by omega), if_pos (by omega), hbt, if_neg (by omega), if_neg (by omega), hw1, e]
    · have hno : ¬ s.data.toList.all digit = true := fun h => hd (List.all_eq_true.1 h _ (List.getElem_mem hlt2))
      rw [if_neg hno]
      refine Ev.step (f := fun _ => some (0, false)) (fun k => ?_) (Ev.now _)
      unfold digit at hd
      simp only [Bool.and_eq_true, decide_eq_true_eq] at hd
      simp only [impl_number.l0]
      rw [if_pos (by omega), if_pos (by omega), if_pos (by omega), hbt]
      by_cases c : (s.data.toList[j].toNat : Int) < 48
      · rw [if_pos c]
      · rw [if_neg c, if_pos (by omega)]
theorem numR_cases (n : Nat) (hn : n ≤ 9) (s : ByteArray) : (s.toList = ([] : List UInt8) → numR n s = (0, false)) ∧ (n < s.size → numR n s = (0, false)) ∧
    (0 < s.size → s.size ≤ n → bt s 0 = 48 → 1 < s.size → numR n s = (0, false)) ∧ (0 < s.size → s.size ≤ n → (bt s 0 = 48 → ¬ 1 < s.size) → numR n s = if s.data.toList.all digit = true then ((val s.data.toList : Int), true) else (0, false)) := by
  have hsz : s.data.toList.length = s.size := by simp
  have hhd : ∀ h : 0 < s.size, (s.data.toList.head? = some 48 ↔ bt s 0 = 48) := by
    intro h
    have h2 : 0 < s.data.toList.length := by omega
    have hb := byte_at h
    rw [Int.natCast_zero] at hb
    rw [hb, List.head?_eq_getElem?, List.getElem?_eq_getElem h2]
    constructor
    · intro e
      rw [Option.some.inj e]
      rfl
    · intro e
      congr 1
      exact UInt8.toNat_inj.1 (by have : (48 : UInt8).toNat = 48 := rfl; omega)
  refine ⟨fun h => ?_, fun h => ?_, fun h0 h1 h2 h3 => ?_, fun h0 h1 h2 => ?_⟩
  · unfold numR numOk
    rw [toList_eq] at h
    rw [h]
    simp
  · unfold numR
    rw [if_neg (by omega)]
  · unfold numR numOk
    rw [if_neg]
    intro h
    have := h.1
    rw [decide_eq_true ((hhd h0).2 h2), decide_eq_true (show 1 < s.data.toList.length by omega)] at this
    simp at this
  · have hne : s.data.toList ≠ [] := fun e => by rw [e] at hsz; simp at hsz; omega
    have hl : (decide (s.data.toList.head? = some 48) && decide (1 < s.data.toList.length)) = false := by
      by_cases c : bt s 0 = 48
      · rw [decide_eq_false (show ¬ 1 < s.data.toList.length from by have := h2 c; omega), Bool.and_false]
      · rw [decide_eq_false (fun e => c ((hhd h0).1 e)), Bool.false_and]
    unfold numR numOk
    rw [hl, decide_eq_true hne]
    simp only [Bool.not_false, Bool.and_self, Bool.true_and]
    by_cases c : s.data.toList.all digit = true
    · rw [if_pos ⟨c, h1⟩, if_pos c]
    · rw [if_neg (fun e => c e.1), if_neg c]
theorem spec_number (s : ByteArray) : Ev (fun k => spec_l01Number.f k s) (numR 9 s) := by
  obtain ⟨q1, q2, q3, q4⟩ := numR_cases 9 (by omega) s
  unfold spec_l01Number.f
  by_cases c1 : s.toList = ([] : List UInt8)
  · simp only [if_pos c1]
    rw [q1 c1]
    exact Ev.step (f := fun _ => some (0, false)) (fun k => by simp only [spec_l01Number.j0, if_true]) (Ev.now _)
  · simp only [if_neg c1]
    by_cases c2 : (s.size : Int) > 9
    · simp only [if_pos c2]
      rw [q2 (by omega)]
      exact Ev.step (f := fun _ => some (0, false)) (fun k => by simp only [spec_l01Number.j0, if_true]) (Ev.now _)
    · have h0 : 0 < s.size := by
        rcases Nat.eq_zero_or_pos s.size with h | h
        · exfalso
          apply c1
          rw [toList_eq]
          exact List.length_eq_zero_iff.1 (by simpa using h)
        · exact h
      simp only [if_neg c2, if_pos (show (0 : Int) < (s.size : Int) by omega)]
      have hl := spec_num_loop s (by omega) s.size 0 (by omega) rfl
      by_cases c3 : bt s 0 = 48
      · simp only [if_pos c3]
        by_cases c4 : 1 < s.size
        · rw [q3 h0 (by omega) c3 c4]
          exact Ev.step (f := fun _ => some (0, false)) (fun k => by simp only [spec_l01Number.j0]; rw [if_pos (by rw [decide_eq_true_eq]; omega)]) (Ev.now _)
        · rw [q4 h0 (by omega) (fun _ => c4)]
          exact Ev.step (fun k => by simp only [spec_l01Number.j0]; rw [if_neg (by rw [decide_eq_true_eq]; omega)]; rfl) hl
      · simp only [if_neg c3]
        rw [q4 h0 (by omega) (fun h => absurd h c3)]
        exact Ev.step (fun k => by simp only [spec_l01Number.j0, Bool.false_eq_true, if_false]; rfl) hl
theorem impl_num (s : ByteArray) : Ev (fun k => impl_number.f k s) (numR 5 s) := by
  obtain ⟨q1, q2, q3, q4⟩ := numR_cases 5 (by omega) s
  unfold impl_number.f
  by_cases c1 : s.toList = ([] : List UInt8)
  · simp only [if_pos c1]
    rw [q1 c1]
    exact Ev.step (f := fun _ => some (0, false)) (fun k => by simp only [impl_number.j0, if_true]) (Ev.now _)
  · simp only [if_neg c1]
    by_cases c2 : (s.size : Int) > 5
    · simp only [if_pos c2]
      rw [q2 (by omega)]
      exact Ev.step (f := fun _ => some (0, false)) (fun k => by simp only [impl_number.j0, if_true]) (Ev.now _)
    · have h0 : 0 < s.size := by
        rcases Nat.eq_zero_or_pos s.size with h | h
        · exfalso
          apply c1
          rw [toList_eq]
          exact List.length_eq_zero_iff.1 (by simpa using h)
        · exact h
      simp only [if_neg c2, if_pos (show (0 : Int) < (s.size : Int) by omega)]
      have hl := impl_num_loop s (by omega) s.size 0 (by omega) rfl
      by_cases c3 : bt s 0 = 48
      · simp only [if_pos c3]
        by_cases c4 : 1 < s.size
        · rw [q3 h0 (by omega) c3 c4]
          exact Ev.step (f := fun _ => some (0, false)) (fun k => by simp only [impl_number.j0]; rw [if_pos (by rw [decide_eq_true_eq]; omega)]) (Ev.now _)
        · rw [q4 h0 (by omega) (fun _ => c4)]
          exact Ev.step (fun k => by simp only [impl_number.j0]; rw [if_neg (by rw [decide_eq_true_eq]; omega)]; rfl) hl
      · simp only [if_neg c3]
        rw [q4 h0 (by omega) (fun h => absurd h c3)]
        exact Ev.step (fun k => by simp only [impl_number.j0, Bool.false_eq_true, if_false]; rfl) hl
/-- What both say of a number. -/
theorem num_two (s : ByteArray) : ((numR 9 s).2 = true ∧ (numR 9 s).1 ≤ 3000 ↔ (numR 5 s).2 = true ∧ (numR 5 s).1 ≤ 3000) ∧ ((numR 5 s).2 = true → (numR 9 s).2 = true ∧ (numR 9 s).1 = (numR 5 s).1) ∧ 0 ≤ (numR 9 s).1 ∧ 0 ≤ (numR 5 s).1 ∧ (numR 5 s).1 ≤ 99999 ∧ (numR 9 s).1 ≤ 999999999 := by
  have hsz : s.data.toList.length = s.size := by simp
  unfold numR
  by_cases h : numOk s.data.toList = true
  · have hall : s.data.toList.all digit = true := by
      unfold numOk at h
      rw [Bool.and_eq_true] at h
      exact h.2
    have hv := val_lt hall
    by_cases c5 : s.size ≤ 5
    · have hp : (10 : Nat) ^ s.data.toList.length ≤ 10 ^ 5 := Nat.pow_le_pow_right (by omega) (by omega)
      rw [if_pos ⟨h, by omega⟩, if_pos ⟨h, c5⟩]
      exact ⟨Iff.rfl, fun _ => ⟨rfl, rfl⟩, by omega, by omega, by omega, by omega⟩
    · rw [if_neg (show ¬ (numOk s.data.toList = true ∧ s.size ≤ 5) from fun e => c5 e.2)]
      by_cases c9 : s.size ≤ 9
      · have hp : (10 : Nat) ^ s.data.toList.length ≤ 10 ^ 9 := Nat.pow_le_pow_right (by omega) (by omega)
        have hg := val_ge h (by omega)
        rw [if_pos ⟨h, c9⟩]
        refine ⟨⟨fun e => ?_, fun e => (by cases e.1)⟩, fun e => (by cases e), by omega, by omega, by omega, by omega⟩
        have := e.2
        exfalso
        simp only at this
        omega
      · rw [if_neg (fun e => c9 e.2)]
        exact ⟨Iff.rfl, fun e => (by cases e), by omega, by omega, by omega, by omega⟩
  · rw [if_neg (fun e => h e.1), if_neg (fun e => h e.1)]
    exact ⟨Iff.rfl, fun e => (by cases e), by omega, by omega, by omega, by omega⟩

theorem rd_at {xs : List ByteArray} {j : Nat} (h : j < xs.length) : rdOf ByteArray.empty xs (j : Int) = xs[j] := by
  unfold rdOf
  rw [Int.toNat_natCast, List.getD_eq_getElem?_getD, List.getElem?_eq_getElem h]
  rfl
theorem i8_small {n : Int} (h : 0 ≤ n ∧ n ≤ 127) : IntKind.i8.wrap n = n := by
  simp [IntKind.wrap, IntKind.signed, IntKind.bits]
  omega
theorem impl_sm (v : ByteArray) : Ev (fun k => impl_small.f k v) (if (numR 5 v).2 = true ∧ (numR 5 v).1 ≤ 127 then ((numR 5 v).1, true) else (IntKind.i8.wrap (mn (numR 5 v).1 127), false)) := by
  have hb := (num_two v).2.2.2.1
  refine Ev.bind (impl_num v) ?_
  by_cases c : (numR 5 v).2 = true
  · simp only [if_pos c]
    by_cases c2 : (numR 5 v).1 ≤ 127
    · rw [if_pos ⟨c, c2⟩, decide_eq_true c2]
      have e : mn (numR 5 v).1 127 = (numR 5 v).1 := by unfold mn; omega
      rw [e, i8_small ⟨hb, c2⟩]
      exact Ev.now _
    · rw [if_neg (show ¬ ((numR 5 v).2 = true ∧ (numR 5 v).1 ≤ 127) from fun h => c2 h.2), decide_eq_false c2]
      exact Ev.now _
  · simp only [if_neg c]
    rw [if_neg (show ¬ ((numR 5 v).2 = true ∧ (numR 5 v).1 ≤ 127) from fun h => c h.1)]
    exact Ev.now _
abbrev Z0 : Nat → Int := fun _ => 0
/-- A row's cells are written. -/
def wr (y : Nat) : List ByteArray → Nat → (Nat → Int) → (Nat → Int)
  | [], _, d => d
  | w :: ws, x, d => wr y ws (x + 1) (Bay.setD d (16 * y + x) (numR 5 w).1)
theorem wr_low (y : Nat) : ∀ (ws : List ByteArray) (x : Nat) (d : Nat → Int) (i : Nat), i < 16 * y + x → wr y ws x d i = d i
  | [], _, _, _, _ => rfl
  | w :: ws, x, d, i, h => by
    rw [wr, wr_low y ws (x + 1) _ i (by omega), Bay.setD_ne _ _ (by omega)]
theorem wr_at (y : Nat) : ∀ (ws : List ByteArray) (x : Nat) (d : Nat → Int) (j : Nat) (hj : j < ws.length), wr y ws x d (16 * y + x + j) = (numR 5 ws[j]).1
  | [], _, _, j, hj => absurd hj (by simp)
  | w :: ws, x, d, 0, _ => by
    rw [wr, wr_low y ws (x + 1) _ _ (by omega), Nat.add_zero, Bay.setD_same]
    rfl
  | w :: ws, x, d, j + 1, hj => by
    have h := wr_at y ws (x + 1) (Bay.setD d (16 * y + x) (numR 5 w).1) j (by rw [List.length_cons] at hj; omega)
    rw [wr, show 16 * y + x + (j + 1) = 16 * y + (x + 1) + j by omega, h]
    rfl
/-- All cells are small. -/
def Small8 (d : Nat → Int) : Prop := ∀ i, 0 ≤ d i ∧ d i ≤ 127
theorem Small8.set {d : Nat → Int} (h : Small8 d) (i : Nat) {v : Int} (h0 : 0 ≤ v) (h1 : v ≤ 127) : Small8 (Bay.setD d i v) := by
  intro n
  unfold Bay.setD
  split
  · exact ⟨h0, h1⟩
  · exact h n
def small (w : ByteArray) : Prop := (numR 5 w).2 = true ∧ (numR 5 w).1 ≤ 127
def fine (w : ByteArray) : Prop := (numR 9 w).2 = true ∧ (numR 9 w).1 ≤ 100
theorem wr_small (y : Nat) : ∀ (ws : List ByteArray) (x : Nat) (d : Nat → Int), Small8 d → (∀ w ∈ ws, small w) → Small8 (wr y ws x d)
  | [], _, _, h, _ => h
  | w :: ws, x, d, h, hs => by
    have h1 := hs w (List.mem_cons_self ..)
    exact wr_small y ws (x + 1) _ (h.set _ (num_two w).2.2.2.1 h1.2) (fun v hv => hs v (List.mem_cons_of_mem _ hv))
theorem fine_small {w : ByteArray} (h : fine w) : small w ∧ (numR 5 w).1 = (numR 9 w).1 ∧ (numR 5 w).1 ≤ 100 := by
  obtain ⟨u1, u2, u3, u4, _, _⟩ := num_two w
  have h5 := u1.1 ⟨h.1, by have := h.2; omega⟩
  have e := (u2 h5.1).2
  have := h.2
  exact ⟨⟨h5.1, by omega⟩, by omega, by omega⟩
theorem small_fine {w : ByteArray} (h : small w) (hl : (numR 5 w).1 ≤ 100) : fine w := by
  obtain ⟨u1, u2, u3, u4, _, _⟩ := num_two w
  obtain ⟨e1, e2⟩ := u2 h.1
  exact ⟨e1, by omega⟩
/-- The program's row. -/
theorem impl_row (lines ws : List ByteArray) (hws : ws.length ≤ 16) (y : Nat) (hy : y < 16) (wide high n : Int) (q : Int × Int × (Nat → Int) × Int) (m : Nat) : ∀ (x : Nat) (d : Nat → Int), ws.length = x + m →
    ((∀ w ∈ ws.drop x, small w) → Ev (fun k => impl_ReadBay.l0 k lines n ((y + 1 : Nat) : Int) wide high (wr y (ws.drop x) x d)) q → Ev (fun k => impl_ReadBay.l1 k (y : Int) lines n (y : Int) ws (ws.length : Int) (x : Int) wide high d) q) ∧
    ((∃ w ∈ ws.drop x, ¬ small w) → Ev (fun k => impl_ReadBay.l1 k (y : Int) lines n (y : Int) ws (ws.length : Int) (x : Int) wide high d) (0, 0, Z0, 5)) := by
  induction m with
  | zero =>
    intro x d hx
    have e : ws.drop x = [] := List.drop_eq_nil_of_le (by omega)
    rw [e]
    refine ⟨fun _ h => ?_, fun ⟨w, hw, _⟩ => by cases hw⟩
    refine Ev.step (fun k => ?_) h
    simp only [impl_ReadBay.l1, wr]
    rw [if_neg (by omega), show wrap64 ((y : Int) + 1) = ((y + 1 : Nat) : Int) by unfold wrap64; omega]
  | succ m ih =>
    intro x d hx
    have hlt : x < ws.length := by omega
    have hw1 : wrap64 ((x : Int) + 1) = ((x + 1 : Nat) : Int) := by unfold wrap64; omega
    rw [List.drop_eq_getElem_cons hlt]
    have st := fun k : Nat => show impl_ReadBay.l1 (k + 1) (y : Int) lines n (y : Int) ws (ws.length : Int) (x : Int) wide high d = (impl_small.f k ws[x]).bind fun t => (if t.2 = true then (impl_ReadBay.l1 k (y : Int) lines n (y : Int) ws (ws.length : Int) ((x + 1 : Nat) : Int) wide high (Bay.setD d (16 * y + x) t.1)) else (some (0, 0, Z0, 5))) by
      simp only [impl_ReadBay.l1]
      rw [if_pos (by omega), if_pos (by omega), if_pos (by omega), rd_at hlt, hw1]
      congr 1
      funext t
      rw [if_pos (show (0 : Int) ≤ (y : Int) by omega), if_pos (show (y : Int) < 16 by omega), if_pos (show (x : Int) < 16 by omega), Int.toNat_natCast, Int.toNat_natCast]
    by_cases c : small ws[x]
    · have hsm := impl_sm ws[x]
      rw [if_pos (show (numR 5 ws[x]).2 = true ∧ (numR 5 ws[x]).1 ≤ 127 from c)] at hsm
      obtain ⟨i1, i2⟩ := ih (x + 1) (Bay.setD d (16 * y + x) (numR 5 ws[x]).1) (by omega)
      refine ⟨fun h k => ?_, fun ⟨w, hw, hn⟩ => ?_⟩
      · refine Ev.step st (Ev.bind hsm ?_)
        simp only [if_true]
        exact i1 (fun w hw => h w (List.mem_cons_of_mem _ hw)) k
      · refine Ev.step st (Ev.bind hsm ?_)
        simp only [if_true]
        rcases List.mem_cons.1 hw with rfl | hw
        · exact absurd c hn
        · exact i2 ⟨w, hw, hn⟩
    · have hsm := impl_sm ws[x]
      rw [if_neg (show ¬ ((numR 5 ws[x]).2 = true ∧ (numR 5 ws[x]).1 ≤ 127) from c)] at hsm
      refine ⟨fun h => absurd (h _ (List.mem_cons_self ..)) c, fun _ => ?_⟩
      refine Ev.step st (Ev.bind hsm ?_)
      simp only [Bool.false_eq_true, if_false]
      exact Ev.now _
/-- The reference's words. -/
theorem spec_words_loop (ws : List ByteArray) (hws : ws.length ≤ 10000000) (m : Nat) : ∀ (x : Nat) (out : List Int), ws.length = x + m → out.length = x →
    ((∀ w ∈ ws.drop x, fine w) → Ev (fun k => spec_l01Words.l0 k out ws (x : Int)) (out ++ (ws.drop x).map (fun w => (numR 9 w).1), true)) ∧
    ((∃ w ∈ ws.drop x, ¬ fine w) → Ev (fun k => spec_l01Words.l0 k out ws (x : Int)) ([], false)) := by
  induction m with
  | zero =>
    intro x out hx ho
    have e : ws.drop x = [] := List.drop_eq_nil_of_le (by omega)
    rw [e]
    refine ⟨fun _ => ?_, fun ⟨w, hw, _⟩ => by cases hw⟩
    rw [List.map_nil, List.append_nil]
    refine Ev.step (f := fun _ => some (out, true)) (fun k => ?_) (Ev.now _)
    simp only [spec_l01Words.l0]
    rw [if_neg (by omega)]
  | succ m ih =>
    intro x out hx ho
    have hlt : x < ws.length := by omega
    have hw1 : wrap64 ((x : Int) + 1) = ((x + 1 : Nat) : Int) := by unfold wrap64; omega
    rw [List.drop_eq_getElem_cons hlt]
    have st := fun k : Nat => show spec_l01Words.l0 (k + 1) out ws (x : Int) = (spec_l01Number.f k ws[x]).bind fun t => (if t.2 = true then (if t.1 > 100 then (some (([] : List Int), false)) else (spec_l01Words.l0 k (out ++ [t.1]) ws ((x + 1 : Nat) : Int))) else (some (([] : List Int), false))) by
      simp only [spec_l01Words.l0]
      rw [if_pos (by omega), if_pos (by omega), rd_at hlt, hw1]
      congr 1
      funext t
      rw [if_pos (show out.length < 17592186044416 by omega)]
    by_cases c : fine ws[x]
    · obtain ⟨i1, i2⟩ := ih (x + 1) (out ++ [(numR 9 ws[x]).1]) (by omega) (by rw [List.length_append, List.length_singleton]; omega)
      have hgo : ∀ q, Ev (fun k => spec_l01Words.l0 k (out ++ [(numR 9 ws[x]).1]) ws ((x + 1 : Nat) : Int)) q → Ev (fun k => spec_l01Words.l0 k out ws (x : Int)) q := by
        intro q hq
        refine Ev.step st (Ev.bind (spec_number ws[x]) ?_)
        have := c.2
        simp only [c.1, if_true, if_neg (show ¬ (numR 9 ws[x]).1 > 100 by omega)]
        exact hq
      refine ⟨fun h => hgo _ ?_, fun ⟨w, hw, hn⟩ => hgo _ ?_⟩
      · have := i1 (fun w hw => h w (List.mem_cons_of_mem _ hw))
        rw [List.append_assoc] at this
        exact this
      · rcases List.mem_cons.1 hw with rfl | hw
        · exact absurd c hn
        · exact i2 ⟨w, hw, hn⟩
    · refine ⟨fun h => absurd (h _ (List.mem_cons_self ..)) c, fun _ => ?_⟩
      refine Ev.step st (Ev.bind (spec_number ws[x]) ?_)
      by_cases c1 : (numR 9 ws[x]).2 = true
      · have c2 : (numR 9 ws[x]).1 > 100 := by have : ¬ (numR 9 ws[x]).1 ≤ 100 := fun h => c ⟨c1, h⟩; omega
        simp only [c1, if_true, if_pos c2]
        exact Ev.now _
      · simp only [if_neg c1]
        exact Ev.now _
/-- The reference's row. -/
theorem spec_row (t ws : List ByteArray) (hws : ws.length ≤ 16) (y : Nat) (hy : y < 16) (wide high last : Int) (q : Int × Int × (Nat → Int) × Int) (m : Nat) : ∀ (x : Nat) (d : Nat → Int), ws.length = x + m → (∀ w ∈ ws, fine w) →
    Ev (fun k => spec_ReadBay.l0 k t last ((y + 1 : Nat) : Int) wide high (wr y (ws.drop x) x d)) q → Ev (fun k => spec_ReadBay.l1 k t last (y : Int) (ws.map fun w => (numR 9 w).1) (x : Int) wide high d) q := by
  induction m with
  | zero =>
    intro x d hx hf h
    have e : ws.drop x = [] := List.drop_eq_nil_of_le (by omega)
    rw [e] at h
    refine Ev.step (fun k => ?_) h
    simp only [spec_ReadBay.l1, wr]
    rw [List.length_map, if_neg (by omega), show wrap64 ((y : Int) + 1) = ((y + 1 : Nat) : Int) by unfold wrap64; omega]
  | succ m ih =>
    intro x d hx hf h
    have hlt : x < ws.length := by omega
    have hw1 : wrap64 ((x : Int) + 1) = ((x + 1 : Nat) : Int) := by unfold wrap64; omega
    rw [List.drop_eq_getElem_cons hlt] at h
    have hc := hf _ (List.getElem_mem hlt)
    obtain ⟨_, e5, e100⟩ := fine_small hc
    have h0 := (num_two ws[x]).2.2.2.1
    refine Ev.step (fun k => ?_) (ih (x + 1) (Bay.setD d (16 * y + x) (numR 5 ws[x]).1) (by omega) hf h)
    simp only [spec_ReadBay.l1]
    rw [List.length_map, if_pos (by omega), if_pos (by omega), if_pos (by omega), if_pos (by omega), if_pos (by omega), hw1, Int.toNat_natCast, Int.toNat_natCast]
    have er : rd (ws.map fun w => (numR 9 w).1) (x : Int) = (numR 9 ws[x]).1 := by
      unfold rd
      rw [Int.toNat_natCast, List.getD_eq_getElem?_getD, List.getElem?_map, List.getElem?_eq_getElem hlt]
      rfl
    rw [er, ← e5, i8w _ h0 (by omega)]
theorem bad_not {a b : Int} {d : Nat → Int} {i : Nat} (hi : i < 256) (h : 100 < d i) : ¬ BayIn.okBay a b d := by
  intro ho
  have h1 := (ho.2.2.2.2 (i / 16) (by omega) (i % 16) (by omega)).2.1
  rw [show 16 * (i / 16) + i % 16 = i by omega] at h1
  omega
theorem impl_fin (lines : List ByteArray) (wide high : Int) (d : Nat → Int) : Ev (fun k => impl_ReadBay.l0 k lines (lines.length : Int) (lines.length : Int) wide high d) (if BayIn.okBay wide high d then (wide, high, d, 0) else (0, 0, Z0, 5)) := by
  refine Ev.step (f := fun _ => some (if BayIn.okBay wide high d then (wide, high, d, 0) else (0, 0, Z0, 5))) (fun k => ?_) (Ev.now _)
  simp only [impl_ReadBay.l0]
  rw [if_neg (by omega)]
  unfold impl_ValidBay.f
  by_cases h : BayIn.okBay wide high d
  · simp only [decide_eq_true h, Option.bind_some, if_true, if_pos h]
  · simp only [decide_eq_false h, Option.bind_some, Bool.false_eq_true, if_false, if_neg h]
theorem spec_ok {wide high : Int} {d : Nat → Int} (hf : FitB wide high d) : Ev (fun k => spec_ReadBay_bay.f k wide high d) (decide (BayIn.okBay wide high d)) := by
  obtain ⟨r, k1, k2⟩ := spec_bay hf
  have e : r = decide (BayIn.okBay wide high d) := by rw [Bool.eq_iff_iff, k2, decide_eq_true_eq]
  subst e
  unfold spec_ReadBay_bay.f
  refine Ev.bind k1 ?_
  have c : wide = wide ∧ high = high ∧ (List.range 256).all (fun i => d i == d i) = true := ⟨rfl, rfl, by simp⟩
  exact Ev.congr (f := fun _ => some (decide (BayIn.okBay wide high d))) (fun _ => if_pos c) (Ev.now _)
theorem spec_fin (t : List ByteArray) (n : Int) {wide high : Int} {d : Nat → Int} (hf : FitB wide high d) : Ev (fun k => spec_ReadBay.l0 k t n n wide high d) (if BayIn.okBay wide high d then (wide, high, d, 0) else (0, 0, Z0, 5)) := by
  refine Ev.step (f := fun k => (spec_ReadBay_bay.f k wide high d).bind fun t145 => (if t145 = true then (some (wide, high, d, 0)) else (some (0, 0, Z0, 5)))) (fun k => ?_) (Ev.bind (spec_ok hf) ?_)
  · simp only [spec_ReadBay.l0]
    rw [if_neg (by omega)]
  · by_cases h : BayIn.okBay wide high d
    · simp only [decide_eq_true h, if_true, if_pos h]
      exact Ev.now _
    · simp only [decide_eq_false h, Bool.false_eq_true, if_false, if_neg h]
      exact Ev.now _
/-- A line of so many words may stand here. -/
def Fits1 (ws : List ByteArray) (y : Nat) (wide : Int) : Prop := ws.length ≤ 16 ∧ (y = 0 ∨ (ws.length : Int) = wide)
theorem impl_j2_no (lines ws : List ByteArray) (y n wide high : Int) (y2 : Int) (d : Nat → Int) : Ev (fun k => impl_ReadBay.j2 k y ws lines n y2 true wide high d) (0, 0, Z0, 5) := by
  refine Ev.step (f := fun _ => some (0, 0, Z0, 5)) (fun k => ?_) (Ev.now _)
  simp only [impl_ReadBay.j2, if_true]
theorem spec_j2_no (t : List ByteArray) (vs : List Int) (n y wide high : Int) (d : Nat → Int) : Ev (fun k => spec_ReadBay.j2 k t n y vs true wide high d) (0, 0, Z0, 5) := by
  refine Ev.step (f := fun _ => some (0, 0, Z0, 5)) (fun k => ?_) (Ev.now _)
  simp only [spec_ReadBay.j2, if_true]
theorem impl_line (lines ws : List ByteArray) {y : Nat} (hlt : y < lines.length) (hy : y < 16) {wide high : Int} (hwd : 0 ≤ wide ∧ wide ≤ 16) (hsp : strings_Split.f lines[y] (⟨#[32]⟩ : ByteArray) = some ws) (d : Nat → Int) (hln : lines.length ≤ 16) :
    (Fits1 ws y wide → (∀ w ∈ ws, small w) → ∀ q, Ev (fun k => impl_ReadBay.l0 k lines (lines.length : Int) ((y + 1 : Nat) : Int) (ws.length : Int) high (wr y ws 0 d)) q → Ev (fun k => impl_ReadBay.l0 k lines (lines.length : Int) (y : Int) wide high d) q) ∧
    (¬ (Fits1 ws y wide ∧ ∀ w ∈ ws, small w) → Ev (fun k => impl_ReadBay.l0 k lines (lines.length : Int) (y : Int) wide high d) (0, 0, Z0, 5)) := by
  have st := fun k : Nat => show impl_ReadBay.l0 (k + 1) lines (lines.length : Int) (y : Int) wide high d = (if (ws.length : Int) > 16 then (impl_ReadBay.j2 k (y : Int) ws lines (lines.length : Int) (y : Int) true wide high d) else (if (y : Int) > 0 then (impl_ReadBay.j2 k (y : Int) ws lines (lines.length : Int) (y : Int) ((ws.length : Int) != (wrap64 wide)) wide high d) else (impl_ReadBay.j2 k (y : Int) ws lines (lines.length : Int) (y : Int) false wide high d))) by
    simp only [impl_ReadBay.l0]
    rw [if_pos (by omega), if_pos (by omega), if_pos (by omega), rd_at hlt, hsp]
    rfl
  have ew : wrap64 wide = wide := w64 (by omega)
  rw [ew] at st
  by_cases c1 : (ws.length : Int) > 16
  · simp only [if_pos c1] at st
    exact ⟨fun h => absurd h.1 (by omega), fun _ => Ev.step st (impl_j2_no ..)⟩
  · simp only [if_neg c1] at st
    have hl16 : ws.length ≤ 16 := by omega
    have go : ∀ q, ((∀ w ∈ ws, small w) → Ev (fun k => impl_ReadBay.l0 k lines (lines.length : Int) ((y + 1 : Nat) : Int) (ws.length : Int) high (wr y ws 0 d)) q) → ((∃ w ∈ ws, ¬ small w) → q = (0, 0, Z0, 5)) → Ev (fun k => impl_ReadBay.j2 k (y : Int) ws lines (lines.length : Int) (y : Int) false wide high d) q := by
      intro q h1 h2
      obtain ⟨r1, r2⟩ := impl_row lines ws hl16 y hy (ws.length : Int) high (lines.length : Int) q ws.length 0 d (by omega)
      rw [List.drop_zero] at r1 r2
      have e8 : IntKind.i8.wrap (ws.length : Int) = (ws.length : Int) := i8w _ (by omega) (by omega)
      refine Ev.step (f := fun k => impl_ReadBay.l1 k (y : Int) lines (lines.length : Int) (y : Int) ws (ws.length : Int) ((0 : Nat) : Int) (ws.length : Int) high d) (fun k => ?_) ?_
      · simp only [impl_ReadBay.j2, Bool.false_eq_true, if_false]
        rw [e8]
        rfl
      · by_cases c : ∀ w ∈ ws, small w
        · exact r1 c (h1 c)
        · have c2 : ∃ w ∈ ws, ¬ small w := by
            apply Classical.byContradiction
            intro hn
            exact c fun w hw => Classical.byContradiction fun hs => hn ⟨w, hw, hs⟩
          rw [h2 c2]
          exact r2 c2
    have bad : ¬ (∀ w ∈ ws, small w) → ∃ w ∈ ws, ¬ small w := fun c => by
      apply Classical.byContradiction
      intro hn
      exact c fun w hw => Classical.byContradiction fun hs => hn ⟨w, hw, hs⟩
    by_cases c2 : (y : Int) > 0
    · simp only [if_pos c2] at st
      by_cases c3 : (ws.length : Int) = wide
      · have e3 : ((ws.length : Int) != wide) = false := bne_eq_false_iff_eq.mpr c3
        rw [e3] at st
        refine ⟨fun _ hs q hq => Ev.step st (go q (fun _ => hq) (fun ⟨w, hw, hn⟩ => absurd (hs w hw) hn)), fun h => ?_⟩
        have hn : ¬ ∀ w ∈ ws, small w := fun hs => h ⟨⟨hl16, .inr c3⟩, hs⟩
        exact Ev.step st (go _ (fun hs => absurd hs hn) (fun _ => rfl))
      · have e3 : ((ws.length : Int) != wide) = true := bne_iff_ne.mpr c3
        rw [e3] at st
        refine ⟨fun h => ?_, fun _ => Ev.step st (impl_j2_no ..)⟩
        rcases h.2 with h | h
        · omega
        · exact absurd h c3
    · simp only [if_neg c2] at st
      have y0 : y = 0 := by omega
      refine ⟨fun _ hs q hq => Ev.step st (go q (fun _ => hq) (fun ⟨w, hw, hn⟩ => absurd (hs w hw) hn)), fun h => ?_⟩
      have hn : ¬ ∀ w ∈ ws, small w := fun hs => h ⟨⟨hl16, .inl y0⟩, hs⟩
      exact Ev.step st (go _ (fun hs => absurd hs hn) (fun _ => rfl))
theorem spec_line (t ws : List ByteArray) {y : Nat} (hlt : y < t.length) (hy : y < 16) {wide high : Int} (hwd : 0 ≤ wide ∧ wide ≤ 16) (hsp : Ev (fun k => spec_l01Split.f k t[y] 32) ws) (hwl : ws.length ≤ 10000000) (d : Nat → Int) (n : Nat) (hn : y < n) :
    (Fits1 ws y wide → (∀ w ∈ ws, fine w) → ∀ q, Ev (fun k => spec_ReadBay.l0 k t (n : Int) ((y + 1 : Nat) : Int) (ws.length : Int) high (wr y ws 0 d)) q → Ev (fun k => spec_ReadBay.l0 k t (n : Int) (y : Int) wide high d) q) ∧
    (¬ (Fits1 ws y wide ∧ ∀ w ∈ ws, fine w) → Ev (fun k => spec_ReadBay.l0 k t (n : Int) (y : Int) wide high d) (0, 0, Z0, 5)) := by
  have ew : wrap64 wide = wide := w64 (by omega)
  have st := fun k : Nat => show spec_ReadBay.l0 (k + 1) t (n : Int) (y : Int) wide high d = (spec_l01Words.f k t[y]).bind fun b => (if b.2 = true then (if (b.1.length : Int) > 16 then (spec_ReadBay.j2 k t (n : Int) (y : Int) b.1 true wide high d) else (if (y : Int) > 0 then (spec_ReadBay.j2 k t (n : Int) (y : Int) b.1 ((b.1.length : Int) != wide) wide high d) else (spec_ReadBay.j2 k t (n : Int) (y : Int) b.1 false wide high d))) else (spec_ReadBay.j2 k t (n : Int) (y : Int) b.1 true wide high d)) by
    simp only [spec_ReadBay.l0]
    rw [if_pos (by omega), if_pos (by omega), if_pos (by omega), rd_at hlt, ew]
  obtain ⟨w1, w2⟩ := spec_words_loop ws hwl ws.length 0 [] (by omega) rfl
  rw [List.drop_zero] at w1 w2
  rw [List.nil_append] at w1
  by_cases c : ∀ w ∈ ws, fine w
  · have hw : Ev (fun k => spec_l01Words.f k t[y]) (ws.map (fun w => (numR 9 w).1), true) := by
      unfold spec_l01Words.f
      exact Ev.bind hsp (w1 c)
    have st2 : ∀ q, Ev (fun k => (if ((ws.length : Nat) : Int) > 16 then (spec_ReadBay.j2 k t (n : Int) (y : Int) (ws.map fun w => (numR 9 w).1) true wide high d) else (if (y : Int) > 0 then (spec_ReadBay.j2 k t (n : Int) (y : Int) (ws.map fun w => (numR 9 w).1) ((ws.length : Int) != wide) wide high d) else (spec_ReadBay.j2 k t (n : Int) (y : Int) (ws.map fun w => (numR 9 w).1) false wide high d)))) q → Ev (fun k => spec_ReadBay.l0 k t (n : Int) (y : Int) wide high d) q := by
      intro q hq
      refine Ev.step st (Ev.bind hw ?_)
      simp only [if_true, List.length_map]
      exact hq
    by_cases c1 : (ws.length : Int) > 16
    · simp only [if_pos c1] at st2
      exact ⟨fun h => absurd h.1 (by omega), fun _ => st2 _ (spec_j2_no ..)⟩
    · simp only [if_neg c1] at st2
      have hl16 : ws.length ≤ 16 := by omega
      have go : ∀ q, Ev (fun k => spec_ReadBay.l0 k t (n : Int) ((y + 1 : Nat) : Int) (ws.length : Int) high (wr y ws 0 d)) q → Ev (fun k => spec_ReadBay.j2 k t (n : Int) (y : Int) (ws.map fun w => (numR 9 w).1) false wide high d) q := by
        intro q hq
        have r1 := spec_row t ws hl16 y hy (ws.length : Int) high (n : Int) q ws.length 0 d (by omega) c
        rw [List.drop_zero] at r1
        have e8 : IntKind.i8.wrap (ws.length : Int) = (ws.length : Int) := i8w _ (by omega) (by omega)
        refine Ev.step (f := fun k => spec_ReadBay.l1 k t (n : Int) (y : Int) (ws.map fun w => (numR 9 w).1) ((0 : Nat) : Int) (ws.length : Int) high d) (fun k => ?_) (r1 hq)
        simp only [spec_ReadBay.j2, Bool.false_eq_true, if_false, List.length_map]
        rw [e8]
        rfl
      by_cases c2 : (y : Int) > 0
      · simp only [if_pos c2] at st2
        by_cases c3 : (ws.length : Int) = wide
        · have e3 : ((ws.length : Int) != wide) = false := bne_eq_false_iff_eq.mpr c3
          rw [e3] at st2
          exact ⟨fun _ _ q hq => st2 q (go q hq), fun h => absurd ⟨⟨hl16, .inr c3⟩, c⟩ h⟩
        · have e3 : ((ws.length : Int) != wide) = true := bne_iff_ne.mpr c3
          rw [e3] at st2
          refine ⟨fun h => ?_, fun _ => st2 _ (spec_j2_no ..)⟩
          rcases h.2 with h | h
          · omega
          · exact absurd h c3
      · simp only [if_neg c2] at st2
        have y0 : y = 0 := by omega
        exact ⟨fun _ _ q hq => st2 q (go q hq), fun h => absurd ⟨⟨hl16, .inl y0⟩, c⟩ h⟩
  · have c2 : ∃ w ∈ ws, ¬ fine w := by
      apply Classical.byContradiction
      intro hn
      exact c fun w hw => Classical.byContradiction fun hs => hn ⟨w, hw, hs⟩
    refine ⟨fun _ h => absurd h c, fun _ => ?_⟩
    have hw : Ev (fun k => spec_l01Words.f k t[y]) ([], false) := by
      unfold spec_l01Words.f
      exact Ev.bind hsp (w2 c2)
    refine Ev.step st (Ev.bind hw ?_)
    simp only [Bool.false_eq_true, if_false]
    exact spec_j2_no ..
theorem bad_rows (lines : List ByteArray) (hln : lines.length ≤ 16) (hsz : ∀ w ∈ lines, w.size ≤ 9999999) (high : Int) (m : Nat) : ∀ (y : Nat) (wide : Int) (d : Nat → Int), lines.length = y + m → (0 ≤ wide ∧ wide ≤ 16) → (∃ i, i < 16 * y ∧ 100 < d i) →
    Ev (fun k => impl_ReadBay.l0 k lines (lines.length : Int) (y : Int) wide high d) (0, 0, Z0, 5) := by
  induction m with
  | zero =>
    intro y wide d hm hwd ⟨i, hi, hd⟩
    have h := impl_fin lines wide high d
    rw [if_neg (bad_not (i := i) (by omega) hd)] at h
    rw [show (y : Int) = (lines.length : Int) by omega]
    exact h
  | succ m ih =>
    intro y wide d hm hwd ⟨i, hi, hd⟩
    have hlt : y < lines.length := by omega
    obtain ⟨ws, _, _, h3⟩ := both_split lines[y] 32 (by have := hsz _ (List.getElem_mem hlt); omega)
    obtain ⟨s1, s2⟩ := impl_line lines ws hlt (by omega) hwd h3 d hln (high := high)
    by_cases c : Fits1 ws y wide ∧ ∀ w ∈ ws, small w
    · refine s1 c.1 c.2 _ (ih (y + 1) _ _ (by omega) (by have := c.1.1; omega) ⟨i, by omega, ?_⟩)
      rw [wr_low y ws 0 d i (by omega)]
      exact hd
    · exact s2 c
theorem both_rows (t lines : List ByteArray) (hln : lines.length ≤ 16) (hlt2 : lines.length ≤ t.length) (hsz : ∀ w ∈ lines, w.size ≤ 9999999) (hget : ∀ (y : Nat) (h : y < lines.length), t[y]'(by omega) = lines[y]) (m : Nat) : ∀ (y : Nat) (wide : Int) (d : Nat → Int), lines.length = y + m → (0 ≤ wide ∧ wide ≤ 16) → Small8 d →
    ∃ q, Ev (fun k => spec_ReadBay.l0 k t (lines.length : Int) (y : Int) wide (lines.length : Int) d) q ∧ Ev (fun k => impl_ReadBay.l0 k lines (lines.length : Int) (y : Int) wide (lines.length : Int) d) q := by
  induction m with
  | zero =>
    intro y wide d hm hwd hs
    rw [show (y : Int) = (lines.length : Int) by omega]
    exact ⟨_, spec_fin t _ ⟨by omega, by omega, fun i _ => by have := hs i; omega⟩, impl_fin lines wide _ d⟩
  | succ m ih =>
    intro y wide d hm hwd hs
    have hlt : y < lines.length := by omega
    have e := hget y hlt
    obtain ⟨ws, g1, g2, g3⟩ := both_split lines[y] 32 (by have := hsz _ (List.getElem_mem hlt); omega)
    have hwl : ws.length ≤ 10000000 := by
      have h1 := (sp_len 32 lines[y].data.toList).2
      have h2 : lines[y].data.toList.length = lines[y].size := by simp
      have h3 := hsz _ (List.getElem_mem hlt)
      rw [← g1, List.length_map] at h1
      omega
    obtain ⟨s1, s2⟩ := impl_line lines ws hlt (by omega) hwd g3 d hln (high := (lines.length : Int))
    rw [← e] at g2
    by_cases cl : Fits1 ws y wide
    · obtain ⟨u1, u2⟩ := spec_line t ws (by omega) (by omega) hwd g2 (by have := cl.1; omega) d lines.length hlt (high := (lines.length : Int))
      have hlen := cl.1
      by_cases cf : ∀ w ∈ ws, fine w
      · have csm : ∀ w ∈ ws, small w := fun w hw => (fine_small (cf w hw)).1
        obtain ⟨q, q1, q2⟩ := ih (y + 1) (ws.length : Int) (wr y ws 0 d) (by omega) (by omega) (wr_small y ws 0 d hs csm)
        exact ⟨q, u1 cl cf q q1, s1 cl csm q q2⟩
      · refine ⟨_, u2 (fun h => cf h.2), ?_⟩
        by_cases csm : ∀ w ∈ ws, small w
        · obtain ⟨w, hw, hn⟩ : ∃ w ∈ ws, ¬ fine w := by
            apply Classical.byContradiction
            intro hn
            exact cf fun w hw => Classical.byContradiction fun hs => hn ⟨w, hw, hs⟩
          obtain ⟨j, hj, rfl⟩ := List.getElem_of_mem hw
          refine s1 cl csm _ (bad_rows lines hln hsz _ m (y + 1) _ _ (by omega) (by omega) ⟨16 * y + 0 + j, by omega, ?_⟩)
          rw [wr_at y ws 0 d j hj]
          rcases Int.lt_or_le 100 (numR 5 ws[j]).1 with h | h
          · exact h
          · exact absurd (small_fine (csm _ hw) h) hn
        · exact s2 (fun h => csm h.2)
    · obtain ⟨u1, u2⟩ := spec_line t ws (by omega) (by omega) hwd g2 hwl d lines.length hlt (high := (lines.length : Int))
      exact ⟨_, u2 (fun h => cl h.1), s2 (fun h => cl h.1)⟩
/-- Both read a bay alike. -/
theorem both_bay (s : ByteArray) (hs : s.size ≤ 1048576) : ∃ q, Ev (fun k => spec_ReadBay.f k s) q ∧ Ev (fun k => impl_ReadBay.f k s) q := by
  obtain ⟨t, h1, h2, h3⟩ := both_split s 10 (by omega)
  have hlen : t.length = (sp 10 s.data.toList).length := by rw [← h1, List.length_map]
  have hsp := sp_len 10 s.data.toList
  have hsz : s.data.toList.length = s.size := by simp
  have hws : ∀ w ∈ t, w.size ≤ 9999999 := by
    intro w hw
    have hm : w.data.toList ∈ sp 10 s.data.toList := by rw [← h1]; exact List.mem_map.2 ⟨w, hw, rfl⟩
    have := (sp_mem 10 s.data.toList _ hm).2
    have e : w.data.toList.length = w.size := by simp
    omega
  obtain ⟨n, hn⟩ : ∃ n, t.length = n + 1 := ⟨t.length - 1, by omega⟩
  have hlast : wrap64 ((t.length : Int) - 1) = (n : Int) := by rw [w64 (by omega)]; omega
  have hlt : n < t.length := by omega
  have e10 : ((10 : UInt8).toNat : Int) = 10 := rfl
  rw [e10] at h2
  have specs : ∀ q, Ev (fun k => if (rdOf ByteArray.empty t (n : Int)).toList = ([] : List UInt8) then spec_ReadBay.j0 k t (n : Int) (!(decide (1 ≤ (n : Int) ∧ (n : Int) ≤ 16))) else spec_ReadBay.j0 k t (n : Int) true) q → Ev (fun k => spec_ReadBay.f k s) q := by
    intro q hq
    unfold spec_ReadBay.f
    refine Ev.bind h2 ?_
    simp only [hlast, if_pos (show (0 : Int) ≤ (n : Int) by omega), if_pos (show (n : Int) < (t.length : Int) by omega), in_some, Option.bind_some]
    exact hq
  have sno : Ev (fun k => spec_ReadBay.j0 k t (n : Int) true) (0, 0, Z0, 5) := by
    refine Ev.step (f := fun _ => some (0, 0, Z0, 5)) (fun k => ?_) (Ev.now _)
    simp only [spec_ReadBay.j0, if_true]
  have ino : ∀ l : List ByteArray, Ev (fun k => impl_ReadBay.j0 k l true) (0, 0, Z0, 5) := by
    intro l
    refine Ev.step (f := fun _ => some (0, 0, Z0, 5)) (fun k => ?_) (Ev.now _)
    simp only [impl_ReadBay.j0, if_true]
  by_cases he : s.toList = ([] : List UInt8)
  · have hl0 : impl_linesOf.f s = some ([], true) := by unfold impl_linesOf.f; rw [if_pos he]
    rw [toList_eq] at he
    have hn0 : n = 0 := by
      rw [he] at hlen
      have : t.length = 1 := hlen
      omega
    subst hn0
    refine ⟨(0, 0, Z0, 5), specs _ ?_, ?_⟩
    · have c : ¬ (1 ≤ ((0 : Nat) : Int) ∧ ((0 : Nat) : Int) ≤ 16) := by omega
      rw [decide_eq_false c]
      simp only [Bool.not_false, ite_self]
      exact sno
    · unfold impl_ReadBay.f
      simp only [hl0, Option.bind_some, if_true, if_pos (show ((([] : List ByteArray).length : Int) < 1) by simp)]
      exact ino _
  · have hcnt : t = Go.Lib.splitB (⟨#[10]⟩ : ByteArray) 0 (Go.Lib.countB s (⟨#[10]⟩ : ByteArray)) s := by
      unfold strings_Split.f at h3
      rw [if_pos ⟨by omega, Nat.le_refl _⟩] at h3
      exact (Option.some.inj h3).symm
    have hcl : (Go.Lib.splitB (⟨#[10]⟩ : ByteArray) 0 (Go.Lib.countB s (⟨#[10]⟩ : ByteArray)) s).length = Go.Lib.countB s (⟨#[10]⟩ : ByteArray) + 1 := Go.Lib.splitB_all _ (Nat.le_refl _) 0 _ s rfl
    have hn2 : Go.Lib.countB s (⟨#[10]⟩ : ByteArray) = n := by rw [← hcnt] at hcl; omega
    have hl0 : impl_linesOf.f s = some (t.take n, (rdOf ByteArray.empty t (n : Int)).toList == ([] : List UInt8)) := by
      unfold impl_linesOf.f
      rw [if_neg he, if_pos (by omega), ← hcnt, hn2]
    have htl : (t.take n).length = n := by rw [List.length_take]; omega
    unfold impl_ReadBay.f
    simp only [hl0, Option.bind_some, htl]
    by_cases ce : (rdOf ByteArray.empty t (n : Int)).toList = ([] : List UInt8)
    · have ceb : ((rdOf ByteArray.empty t (n : Int)).toList == ([] : List UInt8)) = true := beq_iff_eq.mpr ce
      simp only [if_pos ce] at specs
      simp only [ceb, if_true]
      by_cases c1 : 1 ≤ (n : Int) ∧ (n : Int) ≤ 16
      · rw [decide_eq_true c1] at specs
        have hn1 := c1.1
        have hn16 := c1.2
        obtain ⟨q, q1, q2⟩ := both_rows t (t.take n) (by omega) (by omega) (fun w hw => hws w (List.mem_of_mem_take hw)) (fun y h => by rw [List.getElem_take]) n 0 0 Z0 (by omega) (by omega) (fun i => by unfold Z0; omega)
        rw [htl] at q1 q2
        have e8 : IntKind.i8.wrap (n : Int) = (n : Int) := i8w _ (by omega) (by omega)
        refine ⟨q, specs q (Ev.step (fun k => ?_) q1), ?_⟩
        · simp only [spec_ReadBay.j0, Bool.not_true, Bool.false_eq_true, if_false]
          rw [e8]
          rfl
        · simp only [if_neg (show ¬ (n : Int) < 1 by omega), decide_eq_false (show ¬ (n : Int) > 16 by omega)]
          refine Ev.step (fun k => ?_) q2
          simp only [impl_ReadBay.j0, Bool.false_eq_true, if_false]
          rw [htl, e8]
          rfl
      · rw [decide_eq_false c1] at specs
        refine ⟨_, specs _ sno, ?_⟩
        by_cases c2 : (n : Int) < 1
        · simp only [if_pos c2]
          exact ino _
        · simp only [if_neg c2, decide_eq_true (show (n : Int) > 16 by omega)]
          exact ino _
    · have ceb : ((rdOf ByteArray.empty t (n : Int)).toList == ([] : List UInt8)) = false := beq_eq_false_iff_ne.mpr ce
      simp only [if_neg ce] at specs
      simp only [ceb, Bool.false_eq_true, if_false]
      exact ⟨_, specs _ sno, ino _⟩

def FnExactReadBayPure : Prop := ∀ (a0 : ByteArray), a0.size ≤ 140737488351232 → ∃ k, laws_FnExactReadBay.f k a0 = some true

theorem FnExactReadBay : FnExactReadBayPure := by
  intro s hn
  refine Ev.rounds ?_
  by_cases hbig : (s.size : Int) > 1048576
  · refine Ev.congr (f := fun _ => some true) (fun k => ?_) (Ev.now _)
    unfold laws_FnExactReadBay.f
    rw [if_pos hbig]
  · obtain ⟨q, hs, hi⟩ := both_bay s (by omega)
    simp only [laws_FnExactReadBay.f, if_neg hbig]
    refine Ev.bind hs (Ev.bind hi ?_)
    have e : BayIn.eqBay q.1 q.2.1 q.2.2.1 q.1 q.2.1 q.2.2.1 = true := by
      unfold BayIn.eqBay
      rw [if_pos rfl, if_pos rfl]
      exact BayIn.eqN_true.2 fun _ _ => rfl
    unfold laws_eqBay.f
    rw [e]
    simp only [Option.bind_some, if_true]
    exact Ev.now _

end Go.Proofs.YteffdjfiialdfaaDoor.Pure
