/- BayText of the program returns what the reference's returns, for all bays. Conditions: none. -/
import Derived.Test.YteffdjfiialdfaaDoorPFnExactBayTextx2
namespace Go.Proofs.YteffdjfiialdfaaDoor.Pure
open Go.RowKit Go.Proofs.YteffdjfiialdfaaDoor.PFnExactBayText Go.Proofs.YteffdjfiialdfaaDoorW.PrintWords Go.Proofs.YteffdjfiialdfaaDoorW.PrintLast
set_option linter.unusedVariables false
set_option linter.unusedSimpArgs false

theorem i8_of {n : Int} (h : (Lit.int .i8 n).wf = true) : -128 ≤ n ∧ n ≤ 127 := by
  simp [Lit.wf, IntKind.min, IntKind.max, IntKind.signed, IntKind.bits] at h
  omega
/-- What is known of a bay that came in. -/
def FitB (a b : Int) (d : Nat → Int) : Prop := (-128 ≤ a ∧ a ≤ 127) ∧ (-128 ≤ b ∧ b ≤ 127) ∧ ∀ i, i < 256 → -128 ≤ d i ∧ d i ≤ 127
theorem fitB {a b : Int} {d : Nat → Int} (ha : (Lit.int .i8 a).wf = true) (hb : (Lit.int .i8 b).wf = true) (hd : ∀ i, i < 256 → (Lit.int .i8 (d i)).wf = true) : FitB a b d := ⟨i8_of ha, i8_of hb, fun i hi => i8_of (hd i hi)⟩
theorem i8w (n : Int) (h : 0 ≤ n) (h2 : n ≤ 127) : IntKind.i8.wrap n = n := Bay.i8_wrap_le n h h2
/-- It answers whether P holds, and hands the bay back. -/
def EvR (a b : Int) (d : Nat → Int) (f : Nat → Option (Bool × Int × Int × (Nat → Int))) (P : Prop) : Prop := ∃ r : Bool, Ev f (r, a, b, d) ∧ (r = true ↔ P)
theorem EvR.step {a b : Int} {d : Nat → Int} {f g : Nat → Option (Bool × Int × Int × (Nat → Int))} {P : Prop} (h : ∀ k, g (k + 1) = f k) (k : EvR a b d f P) : EvR a b d g P := by
  obtain ⟨r, h1, h2⟩ := k
  exact ⟨r, Ev.step h h1, h2⟩
theorem EvR.iff {a b : Int} {d : Nat → Int} {f : Nat → Option (Bool × Int × Int × (Nat → Int))} {P Q : Prop} (k : EvR a b d f P) (e : P ↔ Q) : EvR a b d f Q := by
  obtain ⟨r, h1, h2⟩ := k
  exact ⟨r, h1, h2.trans e⟩
theorem EvR.no {a b : Int} {d : Nat → Int} {P : Prop} (h : ¬ P) : EvR a b d (fun _ => some (false, a, b, d)) P := ⟨false, Ev.now _, by simp [h]⟩
theorem EvR.yes {a b : Int} {d : Nat → Int} {P : Prop} (h : P) : EvR a b d (fun _ => some (true, a, b, d)) P := ⟨true, Ev.now _, by simp [h]⟩
theorem in_some (a b c : Int) : spec_l00In.f a b c = some (decide (b ≤ a ∧ a ≤ c)) := by
  unfold spec_l00In.f
  by_cases h : a ≥ b
  · rw [if_pos h]; simp [h]
  · rw [if_neg h, decide_eq_false (fun q => h q.1)]
theorem w64 {n : Int} (h : -9223372036854775808 ≤ n ∧ n ≤ 9223372036854775807) : wrap64 n = n := by unfold wrap64; omega
theorem is_some {a b : Int} {d : Nat → Int} (hf : FitB a b d) (x y : Int) (hx : -128 ≤ x ∧ x ≤ 127) (hy : -128 ≤ y ∧ y ≤ 127) : spec_l01Is.f a b d x y = some (decide ((0 ≤ x ∧ x < a) ∧ (0 ≤ y ∧ y < b)), a, b, d) := by
  unfold spec_l01Is.f
  have := hf.1
  have := hf.2.1
  rw [w64 (n := x) (by omega), w64 (n := y) (by omega), w64 (n := a) (by omega), w64 (n := b) (by omega), w64 (n := a - 1) (by omega), w64 (n := b - 1) (by omega), in_some, in_some]
  simp only [Option.bind_some]
  by_cases h1 : 0 ≤ x ∧ x ≤ a - 1
  · rw [decide_eq_true h1, if_pos rfl]
    congr 2
    rw [decide_eq_decide]
    omega
  · rw [decide_eq_false h1, if_neg (by decide)]
    congr 2
    rw [eq_comm, decide_eq_false_iff_not]
    omega
theorem okD_cell {a b : Int} {d : Nat → Int} (hf : FitB a b d) (y x : Nat) (hy : y < 16) (hx : x < 16) {f : Nat → Option (Bool × Int × Int × (Nat → Int))} {P : Prop} (k : EvR a b d f P) :
    EvR a b d (fun g => (spec_l00In.f (wrap64 (d (16 * y + x))) 0 30).bind fun t => (if t = true then (if d (16 * y + x) = 0 then f g else ((spec_l01Is.f a b d x y).bind fun q => (if q.1 = true then f g else (some (false, q.2.1, q.2.2.1, q.2.2.2))))) else (some (false, a, b, d)))) (BayIn.okD a b y x (d (16 * y + x)) ∧ P) := by
  have hd := hf.2.2 (16 * y + x) (by omega)
  rw [w64 (by omega)]
  simp only [in_some, is_some hf x y (by omega) (by omega), Option.bind_some]
  unfold BayIn.okD
  by_cases h1 : 0 ≤ d (16 * y + x) ∧ d (16 * y + x) ≤ 30
  · simp only [decide_eq_true h1, if_true]
    by_cases h2 : d (16 * y + x) = 0
    · simp only [if_pos h2]
      exact k.iff ⟨fun h => ⟨⟨h1.1, h1.2, fun q => absurd h2 q⟩, h⟩, fun h => h.2⟩
    · simp only [if_neg h2]
      by_cases h3 : (0 ≤ (x : Int) ∧ (x : Int) < a) ∧ (0 ≤ (y : Int) ∧ (y : Int) < b)
      · simp only [decide_eq_true h3, if_true]
        exact k.iff ⟨fun h => ⟨⟨h1.1, h1.2, fun _ => ⟨h3.1.2, h3.2.2⟩⟩, h⟩, fun h => h.2⟩
      · simp only [decide_eq_false h3, Bool.false_eq_true, if_false]
        exact EvR.no (fun h => h3 (by have := h.1.2.2 h2; omega))
  · simp only [decide_eq_false h1, Bool.false_eq_true, if_false]
    exact EvR.no (fun h => h1 ⟨h.1.1, h.1.2.1⟩)
theorem bay_row {a b : Int} {d : Nat → Int} (hf : FitB a b d) (y : Nat) (hy : y < 16) {P : Prop} (k : EvR a b d (fun g => spec_l01Bay.l0 g ((y + 1 : Nat) : Int) a b d) P) (n : Nat) : ∀ x : Nat, 16 = x + n →
    EvR a b d (fun g => spec_l01Bay.l1 g (y : Int) (x : Int) a b d) ((∀ j, x ≤ j → j < 16 → BayIn.okD a b y j (d (16 * y + j))) ∧ P) := by
  induction n with
  | zero =>
    intro x hx
    refine (EvR.step (fun g => ?_) k).iff ⟨fun h => ⟨fun j h1 h2 => by omega, h⟩, fun h => h.2⟩
    simp only [spec_l01Bay.l1]
    rw [if_neg (by omega), i8w _ (by omega) (by omega)]
    rfl
  | succ n ih =>
    intro x hx
    refine (EvR.step (fun g => ?_) (okD_cell hf y x hy (by omega) (ih (x + 1) (by omega)))).iff ?_
    · simp only [spec_l01Bay.l1]
      rw [if_pos (by omega), if_pos (by omega), if_pos (by omega), if_pos (by omega), i8w _ (by omega) (by omega), Int.toNat_natCast, Int.toNat_natCast]
      rw [is_some hf x y (by omega) (by omega)]
      rfl
    · refine ⟨fun h => ⟨fun j h1 h2 => ?_, h.2.2⟩, fun h => ⟨h.1 x (Nat.le_refl _) (by omega), fun j h1 h2 => h.1 j (by omega) h2, h.2⟩⟩
      by_cases e : j = x
      · rw [e]; exact h.1
      · exact h.2.1 j (by omega) h2
theorem bay_rows {a b : Int} {d : Nat → Int} (hf : FitB a b d) (n : Nat) : ∀ y : Nat, 16 = y + n → EvR a b d (fun g => spec_l01Bay.l0 g (y : Int) a b d) (∀ j, y ≤ j → j < 16 → ∀ x, x < 16 → BayIn.okD a b j x (d (16 * j + x))) := by
  induction n with
  | zero =>
    intro y hy
    refine EvR.step (fun g => ?_) (EvR.yes (fun j h1 h2 => by omega))
    simp only [spec_l01Bay.l0]
    rw [if_neg (by omega)]
  | succ n ih =>
    intro y hy
    refine (EvR.step (fun g => ?_) (bay_row hf y (by omega) (ih (y + 1) (by omega)) 16 0 (by omega))).iff ?_
    · simp only [spec_l01Bay.l0]
      rw [if_pos (by omega)]
      rfl
    · refine ⟨fun h j h1 h2 x hx => ?_, fun h => ⟨fun x _ hx => h y (Nat.le_refl _) (by omega) x hx, fun j h1 h2 => h j (by omega) h2⟩⟩
      by_cases e : j = y
      · rw [e]; exact h.1 x (by omega) hx
      · exact h.2 j (by omega) h2 x hx
/-- The reference's word on a bay. -/
theorem spec_bay {a b : Int} {d : Nat → Int} (hf : FitB a b d) : EvR a b d (fun g => spec_l01Bay.f g a b d) (BayIn.okBay a b d) := by
  have h1 := hf.1
  have h2 := hf.2.1
  have e : ∀ g, spec_l01Bay.f g a b d = spec_l01Bay.j0 g (! decide ((1 ≤ a ∧ a ≤ 16) ∧ (1 ≤ b ∧ b ≤ 16))) a b d := by
    intro g
    unfold spec_l01Bay.f
    rw [w64 (n := a) (by omega), w64 (n := b) (by omega), in_some, in_some]
    simp only [Option.bind_some]
    by_cases c1 : 1 ≤ a ∧ a ≤ 16
    · by_cases c2 : 1 ≤ b ∧ b ≤ 16 <;> simp [c1, c2]
    · simp [c1]
  obtain ⟨r, k1, k2⟩ := bay_rows hf 16 0 (by omega)
  unfold BayIn.okBay
  by_cases c : (1 ≤ a ∧ a ≤ 16) ∧ (1 ≤ b ∧ b ≤ 16)
  · rw [decide_eq_true c] at e
    refine ⟨r, Ev.congr e (Ev.step (fun g => by simp only [spec_l01Bay.j0, Bool.not_true, Bool.false_eq_true, if_false]; rfl) k1), k2.trans ?_⟩
    exact ⟨fun h => ⟨c.1.1, c.1.2, c.2.1, c.2.2, fun y hy => h y (Nat.zero_le _) hy⟩, fun h j _ hj => h.2.2.2.2 j hj⟩
  · rw [decide_eq_false c] at e
    refine ⟨false, Ev.congr e (Ev.step (f := fun _ => some (false, a, b, d)) (fun g => by simp only [spec_l01Bay.j0, Bool.not_false, if_true]) (Ev.now _)), ?_⟩
    simp only [Bool.false_eq_true, false_iff]
    intro h
    exact c ⟨⟨h.1, h.2.1⟩, h.2.2.1, h.2.2.2.1⟩

theorem toList_loop (s : ByteArray) (d : Nat) : ∀ (i : Nat) (r : List UInt8), s.size = i + d → ByteArray.toList.loop s i r = r.reverse ++ s.data.toList.drop i := by
  induction d with
  | zero =>
    intro i r h
    rw [ByteArray.toList.loop, if_neg (by omega), List.drop_of_length_le (by rw [Array.length_toList]; exact Nat.le_of_eq h)]
    simp
  | succ d ih =>
    intro i r h
    have hl : i < s.data.toList.length := by rw [Array.length_toList]; show i < s.size; omega
    rw [ByteArray.toList.loop, if_pos (by omega), ih (i + 1) _ (by omega), List.drop_eq_getElem_cons hl]
    have e : s.get! i = s.data.toList[i] := by
      show s.data[i]! = _
      rw [getElem!_pos s.data i (by simpa using hl)]
      simp
    rw [e]
    simp
theorem toList_eq (s : ByteArray) : s.toList = s.data.toList := by
  unfold ByteArray.toList
  rw [toList_loop s s.size 0 [] (by omega)]
  simp
theorem toList_inj {a b : ByteArray} (h : a.toList = b.toList) : a = b := by
  rw [toList_eq, toList_eq] at h
  exact ByteArray.ext (Array.toList_inj.1 h)

theorem ba_ext {a b : ByteArray} (h : a.data.toList = b.data.toList) : a = b := toList_inj (by rw [toList_eq, toList_eq, h])

theorem digits_len (a : Nat) : (Go.Lib.decDigits a).length ≤ a + 1 := by
  induction a using Nat.strongRecOn with
  | ind a ih =>
    unfold Go.Lib.decDigits
    split
    · simp
    · rename_i h
      rw [List.length_append, List.length_singleton]
      have := ih (a / 10) (by omega)
      omega
def dec (a : Nat) : ByteArray := ⟨(Go.Lib.decDigits a).toArray⟩
theorem dec_data (a : Nat) : (dec a).data.toList = Go.Lib.decDigits a := rfl
theorem dec_size (a : Nat) : (dec a).size ≤ a + 1 := digits_len a
theorem one_byte (n : Nat) : strOfNums [(n : Int)] = (⟨#[UInt8.ofNat n]⟩ : ByteArray) := rfl
theorem dec_snoc (a : Nat) (c : ¬ a < 10) : dec (a / 10) ++ (⟨#[UInt8.ofNat (48 + a % 10)]⟩ : ByteArray) = dec a := by
  apply toList_inj
  rw [toList_eq, toList_eq, dec_data]
  rw [show Go.Lib.decDigits a = Go.Lib.decDigits (a / 10) ++ [UInt8.ofNat (48 + a % 10)] from by rw [Go.Lib.decDigits, dif_neg c]]
  simp [dec_data]
theorem spec_dec (a : Nat) : a ≤ 1000000 → Ev (fun k => spec_Decimal.f k (a : Int)) (dec a) := by
  induction a using Nat.strongRecOn with
  | ind a ih =>
    intro h
    have e1 : Int.tmod (a : Int) 10 = ((a % 10 : Nat) : Int) := by rw [Int.tmod_eq_emod_of_nonneg (by omega)]; omega
    have e2 : wrap64 (48 + ((a % 10 : Nat) : Int)) % 256 = ((48 + a % 10 : Nat) : Int) := by unfold wrap64; omega
    have e3 : wrap64 (Int.tdiv (a : Int) 10) = ((a / 10 : Nat) : Int) := by
      rw [Int.tdiv_eq_ediv_of_nonneg (by omega)]
      unfold wrap64
      omega
    have hb := one_byte (48 + a % 10)
    by_cases c : a < 10
    · refine Ev.step (f := fun _ => some (dec a)) (fun k => ?_) (Ev.now _)
      simp only [spec_Decimal.f]
      rw [if_pos (by omega), e1, e2, hb]
      unfold dec
      rw [Go.Lib.decDigits, dif_pos c, Nat.mod_eq_of_lt c]
    · have hs := dec_size (a / 10)
      refine Ev.step (f := fun k => (spec_Decimal.f k ((a / 10 : Nat) : Int)).bind fun t => if t.size + (⟨#[UInt8.ofNat (48 + a % 10)]⟩ : ByteArray).size ≤ 9223372036854775807 then some (t ++ (⟨#[UInt8.ofNat (48 + a % 10)]⟩ : ByteArray)) else none) (fun k => ?_) (Ev.bind (ih (a / 10) (by omega) (by omega)) ?_)
      · simp only [spec_Decimal.f]
        rw [if_neg (by omega), e1, e2, e3]
        simp only [Option.bind_some, hb]
      · rw [if_pos (by have : (⟨#[UInt8.ofNat (48 + a % 10)]⟩ : ByteArray).size = 1 := rfl; omega), dec_snoc a c]
        exact Ev.now _
theorem impl_dec (a : Nat) (h : a ≤ 1000000) : impl_decimal.f (a : Int) = some (dec a) := by
  unfold impl_decimal.f strconv_FormatInt.f
  rw [if_pos ⟨rfl, by omega, by omega⟩]
  unfold Go.Lib.itoa
  rw [if_neg (by omega), Int.toNat_natCast]
  rfl
attribute [irreducible] dec

def mk (l : List UInt8) : ByteArray := ⟨l.toArray⟩
theorem mk_app (l m : List UInt8) : mk l ++ mk m = mk (l ++ m) := ba_ext (by simp [mk])
theorem mk_size (l : List UInt8) : (mk l).size = l.length := by simp [mk, ByteArray.size]
theorem mk_list (l : List UInt8) : (mk l).data.toList = l := rfl
theorem dec_mk (a : Nat) : dec a = mk (Go.Lib.decDigits a) := ba_ext (by rw [dec_data, mk_list])
/-- A cell's numeral. -/
def cellL (d : Nat → Int) (i : Nat) : List UInt8 := Go.Lib.decDigits (d i).toNat
/-- The cells from x on, n of them, a blank ahead of each. -/
def restL (d : Nat → Int) (y : Nat) : Nat → Nat → List UInt8
  | 0, _ => []
  | n + 1, x => 32 :: (cellL d (16 * y + x) ++ restL d y n (x + 1))
def lineL (d : Nat → Int) (y n : Nat) : List UInt8 := cellL d (16 * y) ++ restL d y n 1
def linesL (d : Nat → Int) (w : Nat) : Nat → Nat → List UInt8
  | 0, _ => []
  | n + 1, y => (lineL d y w ++ [10]) ++ linesL d w n (y + 1)
theorem cell_facts {a b : Int} {d : Nat → Int} (ho : BayIn.okBay a b d) {y x : Nat} (hy : y < 16) (hx : x < 16) : ∃ c : Nat, d (16 * y + x) = (c : Int) ∧ c ≤ 1000000 ∧ wrap64 (c : Int) = (c : Int) ∧ cellL d (16 * y + x) = Go.Lib.decDigits c ∧ (Go.Lib.decDigits c).length ≤ 31 := by
  have h := ho.2.2.2.2 y hy x hx
  unfold BayIn.okD at h
  obtain ⟨c, hc⟩ : ∃ c : Nat, d (16 * y + x) = (c : Int) := ⟨(d (16 * y + x)).toNat, by omega⟩
  have h1 : c ≤ 30 := by omega
  refine ⟨c, hc, by omega, by unfold wrap64; omega, by unfold cellL; rw [hc, Int.toNat_natCast], ?_⟩
  have := digits_len c
  omega
theorem ar1 {L y x c : Nat} (h : L ≤ 90 * (16 * y + x) + y) (hc : c ≤ 31) : L + 1 + c ≤ 90 * (16 * y + (x + 1)) + y := by omega
theorem ar2 {L y x c : Nat} (h : L ≤ 90 * (16 * y + x) + y) (hc : c ≤ 31) (hy : y < 16) (hx : x ≤ 16) : L + 1 + c ≤ 9223372036854775807 := by omega
theorem ar3 {L y x : Nat} (h : L ≤ 90 * (16 * y + x) + y) (hx : x ≤ 16) : L + 1 ≤ 90 * (16 * (y + 1) + 0) + (y + 1) := by omega
theorem ar4 {L y c : Nat} (h : L ≤ 90 * (16 * y + 0) + y) (hc : c ≤ 31) : L + c ≤ 90 * (16 * y + 1) + y := by omega
theorem ar5 {L y x c : Nat} (h : L ≤ 90 * (16 * y + x) + y) (hc : c ≤ 31) (hy : y < 16) (hx : x ≤ 16) : L + c ≤ 9223372036854775807 := by omega
theorem spec_line {b : Int} {d : Nat → Int} {A : Nat} (ho : BayIn.okBay (A : Int) b d) {y : Nat} (hy : y < 16) (hA : A ≤ 16) {q : ByteArray × Int × Int × (Nat → Int)} (n : Nat) : ∀ (x : Nat) (L : List UInt8), A = x + n → 1 ≤ x → L.length ≤ 90 * (16 * y + x) + y →
    ((L ++ restL d y n x ++ [10]).length ≤ 90 * (16 * (y + 1) + 0) + (y + 1) → Ev (fun k => spec_l01Text.l0 k (mk (L ++ restL d y n x ++ [10])) ((y + 1 : Nat) : Int) (A : Int) b d) q) → Ev (fun k => spec_l01Text.l1 k (mk L) (y : Int) (x : Int) (A : Int) b d) q := by
  induction n with
  | zero =>
    intro x L hx h1 hL hq
    have e1 : L ++ restL d y 0 x ++ [10] = L ++ [10] := by simp [restL]
    rw [e1] at hq
    have hq2 := hq (by rw [List.length_append, List.length_singleton]; exact ar3 hL (by omega))
    refine Ev.step (fun k => ?_) hq2
    have k1 : ¬ (x : Int) < (A : Int) := by omega
    have k2 : (mk L).size + 1 ≤ 9223372036854775807 := by rw [mk_size]; exact ar5 hL (by omega) hy (by omega)
    have k3 : mk L ++ (⟨#[10]⟩ : ByteArray) = mk (L ++ [10]) := mk_app L [10]
    simp only [spec_l01Text.l1]
    rw [if_neg k1, if_pos k2, k3, i8w _ (by omega) (by omega)]
    rfl
  | succ n ih =>
    intro x L hx h1 hL hq
    obtain ⟨c, hc, c1, c2, c3, c4⟩ := cell_facts ho hy (show x < 16 by omega)
    have e1 : L ++ restL d y (n + 1) x ++ [10] = (L ++ [32] ++ Go.Lib.decDigits c) ++ restL d y n (x + 1) ++ [10] := by simp [restL, c3]
    rw [e1] at hq
    have hlen : (L ++ [32] ++ Go.Lib.decDigits c).length = L.length + 1 + (Go.Lib.decDigits c).length := by rw [List.length_append, List.length_append, List.length_singleton]
    have hq2 := ih (x + 1) (L ++ [32] ++ Go.Lib.decDigits c) (by omega) (by omega) (by rw [hlen]; exact ar1 hL c4) hq
    have k1 : (x : Int) < (A : Int) := by omega
    have k2 : (x : Int) > 0 := by omega
    have k3 : (mk L).size + 1 ≤ 9223372036854775807 := by rw [mk_size]; exact ar5 (c := 1) hL (by omega) hy (by omega)
    have k4 : 0 ≤ (y : Int) := by omega
    have k5 : (y : Int) < 16 := by omega
    have k6 : 0 ≤ (x : Int) := by omega
    have k7 : (x : Int) < 16 := by omega
    have m1 : mk L ++ (⟨#[32]⟩ : ByteArray) = mk (L ++ [32]) := mk_app L [32]
    have m2 : mk (L ++ [32]) ++ dec c = mk (L ++ [32] ++ Go.Lib.decDigits c) := by rw [dec_mk]; exact mk_app _ _
    have k8 : (mk (L ++ [32])).size + (dec c).size ≤ 9223372036854775807 := by rw [dec_mk, mk_size, mk_size, List.length_append, List.length_singleton]; exact ar2 hL c4 hy (by omega)
    have hw : IntKind.i8.wrap ((x : Int) + 1) = ((x + 1 : Nat) : Int) := by rw [i8w _ (by omega) (by omega)]; rfl
    refine Ev.step (f := fun k => (spec_Decimal.f k (c : Int)).bind fun t118 => (if (mk (L ++ [32])).size + t118.size ≤ 9223372036854775807 then (spec_l01Text.l1 k (mk (L ++ [32]) ++ t118) (y : Int) ((x + 1 : Nat) : Int) (A : Int) b d) else (none))) (fun k => ?_) (Ev.bind (spec_dec c c1) ?_)
    · simp only [spec_l01Text.l1]
      rw [if_pos k1, if_pos k2, if_pos k3, if_pos k4, if_pos k5, if_pos k6, if_pos k7, Int.toNat_natCast, Int.toNat_natCast, hc, c2, m1, hw]
    · simp only [if_pos k8, m2]
      exact hq2
theorem spec_lines {d : Nat → Int} {A B : Nat} (ho : BayIn.okBay (A : Int) (B : Int) d) (n : Nat) : ∀ (y : Nat) (L : List UInt8), B = y + n → L.length ≤ 90 * (16 * y + 0) + y → Ev (fun k => spec_l01Text.l0 k (mk L) (y : Int) (A : Int) (B : Int) d) (mk (L ++ linesL d (A - 1) n y), (A : Int), (B : Int), d) := by
  have h1 := ho.1
  have h2 := ho.2.1
  have h4 := ho.2.2.2.1
  induction n with
  | zero =>
    intro y L hy hL
    have k1 : ¬ (y : Int) < (B : Int) := by omega
    refine Ev.step (f := fun _ => some (mk L, (A : Int), (B : Int), d)) (fun k => ?_) (by simp only [linesL, List.append_nil]; exact Ev.now _)
    simp only [spec_l01Text.l0]
    rw [if_neg k1]
  | succ n ih =>
    intro y L hy hL
    have hy16 : y < 16 := by omega
    obtain ⟨m, hm⟩ : ∃ m : Nat, A = 1 + m := ⟨A - 1, by omega⟩
    have hA : A ≤ 16 := by omega
    obtain ⟨c, hc, c1, c2, c3, c4⟩ := cell_facts ho hy16 (show 0 < 16 by omega)
    have e1 : L ++ linesL d (A - 1) (n + 1) y = (L ++ Go.Lib.decDigits c) ++ restL d y m 1 ++ [10] ++ linesL d (A - 1) n (y + 1) := by
      have : A - 1 = m := by omega
      rw [Nat.add_zero] at c3
      simp [linesL, lineL, this, c3]
    rw [e1]
    have hq2 := spec_line (q := (mk ((L ++ Go.Lib.decDigits c) ++ restL d y m 1 ++ [10] ++ linesL d (A - 1) n (y + 1)), (A : Int), (B : Int), d)) ho hy16 hA m 1 (L ++ Go.Lib.decDigits c) hm (Nat.le_refl _) (by rw [List.length_append]; exact ar4 hL c4) (fun hl => ih (y + 1) _ (by omega) hl)
    have k0 : (y : Int) < (B : Int) := by omega
    have k1 : (0 : Int) < (A : Int) := by omega
    have k4 : 0 ≤ (y : Int) := by omega
    have k5 : (y : Int) < 16 := by omega
    have m2 : mk L ++ dec c = mk (L ++ Go.Lib.decDigits c) := by rw [dec_mk]; exact mk_app _ _
    have k8 : (mk L).size + (dec c).size ≤ 9223372036854775807 := by rw [dec_mk, mk_size, mk_size]; exact ar5 hL c4 hy16 (by omega)
    have hw : IntKind.i8.wrap ((0 : Int) + 1) = ((1 : Nat) : Int) := by rw [i8w _ (by omega) (by omega)]; rfl
    rw [Nat.add_zero] at hc
    refine Ev.step (f := fun k => spec_l01Text.l1 k (mk L) (y : Int) 0 (A : Int) (B : Int) d) (fun k => ?_) (Ev.step (f := fun k => (spec_Decimal.f k (c : Int)).bind fun t119 => (if (mk L).size + t119.size ≤ 9223372036854775807 then (spec_l01Text.l1 k (mk L ++ t119) (y : Int) ((1 : Nat) : Int) (A : Int) (B : Int) d) else (none))) (fun k => ?_) (Ev.bind (spec_dec c c1) ?_))
    · simp only [spec_l01Text.l0]
      rw [if_pos k0]
    · simp only [spec_l01Text.l1]
      rw [if_pos k1, if_neg (show ¬ (0 : Int) > 0 by omega), if_pos k4, if_pos k5, if_pos (show (0 : Int) ≤ 0 by omega), if_pos (show (0 : Int) < 16 by omega), Int.toNat_natCast, show (0 : Int).toNat = 0 from rfl, Nat.add_zero, hc, c2, hw]
    · simp only [if_pos k8, m2]
      exact hq2
/-- The cells of a line as texts. -/
def cellsB (d : Nat → Int) (y : Nat) : Nat → Nat → List ByteArray
  | 0, _ => []
  | n + 1, x => mk (cellL d (16 * y + x)) :: cellsB d y n (x + 1)
theorem cellsB_join (d : Nat → Int) (y : Nat) (n : Nat) : ∀ x, ((cellsB d y n x).map (·.data.toList) |>.map ([32] ++ ·)).flatten = restL d y n x := by
  induction n with
  | zero => intro x; rfl
  | succ n ih =>
    intro x
    simp only [cellsB, restL, List.map_cons, List.flatten_cons, mk_list]
    rw [ih (x + 1)]
    simp
theorem line_join (d : Nat → Int) (y m : Nat) : Go.Lib.join ((cellsB d y (m + 1) 0).map (·.data.toList)) [32] = lineL d y m := by
  simp only [cellsB, List.map_cons]
  rw [Go.Lib.join_cons, mk_list]
  unfold Go.Lib.joinTail lineL
  rw [cellsB_join, Nat.add_zero]
theorem restL_len {a b : Int} {d : Nat → Int} (ho : BayIn.okBay a b d) {y : Nat} (hy : y < 16) (n : Nat) : ∀ x, x + n ≤ 16 → (restL d y n x).length ≤ 40 * n := by
  induction n with
  | zero => intro x _; exact Nat.zero_le _
  | succ n ih =>
    intro x hx
    obtain ⟨c, hc, c1, c2, c3, c4⟩ := cell_facts ho hy (show x < 16 by omega)
    have := ih (x + 1) (by omega)
    simp only [restL, List.length_cons, List.length_append, c3]
    omega
theorem lineL_len {a b : Int} {d : Nat → Int} (ho : BayIn.okBay a b d) {y : Nat} (hy : y < 16) {m : Nat} (hm : 1 + m ≤ 16) : (lineL d y m).length ≤ 700 := by
  have h1 := restL_len ho hy m 1 hm
  obtain ⟨c, hc, c1, c2, c3, c4⟩ := cell_facts ho hy (show 0 < 16 by omega)
  rw [Nat.add_zero] at c3
  unfold lineL
  rw [List.length_append, c3]
  omega
theorem impl_line {b : Int} {d : Nat → Int} {A : Nat} (ho : BayIn.okBay (A : Int) b d) {y : Nat} (hy : y < 16) (hA : A ≤ 16) {q : ByteArray} {L : List UInt8} (h0 : 1 ≤ A) (hL : L.length ≤ 800 * y) (hq : Ev (fun k => impl_BayText.l0 k (mk (L ++ (lineL d y (A - 1) ++ [10]))) b ((y + 1 : Nat) : Int) (A : Int) b d) q) (n : Nat) : ∀ (x : Nat) (acc : List ByteArray), A = x + n → acc ++ cellsB d y n x = cellsB d y A 0 → acc.length = x →
    Ev (fun k => impl_BayText.l1 k (mk L) (y : Int) acc b (y : Int) (A : Int) (x : Int) (A : Int) b d) q := by
  induction n with
  | zero =>
    intro x acc hx hc hl
    have k1 : ¬ (x : Int) < (A : Int) := by omega
    obtain ⟨m, hm⟩ : ∃ m : Nat, A = m + 1 := ⟨A - 1, by omega⟩
    have hj : Go.Lib.join (acc.map (·.data.toList)) [32] = lineL d y (A - 1) := by
      rw [show acc = cellsB d y A 0 from by rw [← hc]; simp [cellsB], hm]
      exact line_join d y m
    have hlen := lineL_len ho hy (m := A - 1) (by omega)
    have hs : strings_Join.f acc (⟨#[32]⟩ : ByteArray) = some (mk (lineL d y (A - 1))) := by
      unfold strings_Join.f
      have e : (⟨#[32]⟩ : ByteArray).data.toList = [32] := rfl
      rw [e, hj, if_pos ⟨by omega, by omega⟩]
      rfl
    have m1 : mk (lineL d y (A - 1)) ++ (⟨#[10]⟩ : ByteArray) = mk (lineL d y (A - 1) ++ [10]) := mk_app _ [10]
    have m2 : mk L ++ mk (lineL d y (A - 1) ++ [10]) = mk (L ++ (lineL d y (A - 1) ++ [10])) := mk_app _ _
    have k2 : (mk (lineL d y (A - 1))).size + 1 ≤ 9223372036854775807 := by rw [mk_size]; omega
    have k3 : (mk L).size + (mk (lineL d y (A - 1) ++ [10])).size ≤ 9223372036854775807 := by
      rw [mk_size, mk_size, List.length_append, List.length_singleton]
      clear hq hj hs m1 m2 k1 k2 hc
      omega
    have hw : IntKind.i8.wrap ((y : Int) + 1) = ((y + 1 : Nat) : Int) := by rw [i8w _ (by omega) (by omega)]; rfl
    refine Ev.step (fun k => ?_) hq
    simp only [impl_BayText.l1]
    rw [if_neg k1, hs]
    simp only [Option.bind_some]
    rw [if_pos k2, m1, if_pos k3, m2, hw]
  | succ n ih =>
    intro x acc hx hc hl
    obtain ⟨c, hc0, c1, c2, c3, c4⟩ := cell_facts ho hy (show x < 16 by omega)
    have k1 : (x : Int) < (A : Int) := by omega
    have k4 : 0 ≤ (y : Int) := by omega
    have k5 : (y : Int) < 16 := by omega
    have k6 : 0 ≤ (x : Int) := by omega
    have k7 : (x : Int) < 16 := by omega
    have k8 : acc.length < 8796093022208 := by omega
    have hw : IntKind.i8.wrap ((x : Int) + 1) = ((x + 1 : Nat) : Int) := by rw [i8w _ (by omega) (by omega)]; rfl
    refine Ev.step (fun k => ?_) (ih (x + 1) (acc ++ [dec c]) (by omega) (by rw [← hc, dec_mk]; simp [cellsB, c3]) (by rw [List.length_append, List.length_singleton, hl]))
    simp only [impl_BayText.l1]
    rw [if_pos k1, if_pos k4, if_pos k5, if_pos k6, if_pos k7, Int.toNat_natCast, Int.toNat_natCast, hc0, c2, impl_dec c c1]
    simp only [Option.bind_some]
    rw [if_pos k8, hw]
theorem ar6 {L y z : Nat} (h : L ≤ 800 * y) (hz : z ≤ 700) : L + (z + 1) ≤ 800 * (y + 1) := by omega
theorem impl_lines {d : Nat → Int} {A B : Nat} (ho : BayIn.okBay (A : Int) (B : Int) d) (n : Nat) : ∀ (y : Nat) (L : List UInt8), B = y + n → L.length ≤ 800 * y → Ev (fun k => impl_BayText.l0 k (mk L) (B : Int) (y : Int) (A : Int) (B : Int) d) (mk (L ++ linesL d (A - 1) n y)) := by
  have h1 := ho.1
  have h2 := ho.2.1
  have h4 := ho.2.2.2.1
  induction n with
  | zero =>
    intro y L hy hL
    have k1 : ¬ (y : Int) < (B : Int) := by omega
    refine Ev.step (f := fun _ => some (mk L)) (fun k => ?_) (by simp only [linesL, List.append_nil]; exact Ev.now _)
    simp only [impl_BayText.l0]
    rw [if_neg k1]
  | succ n ih =>
    intro y L hy hL
    have hy16 : y < 16 := by omega
    have hA : A ≤ 16 := by omega
    have hA1 : 1 ≤ A := by omega
    have k1 : (y : Int) < (B : Int) := by omega
    have hlen := lineL_len ho hy16 (m := A - 1) (by omega)
    have e1 : L ++ linesL d (A - 1) (n + 1) y = (L ++ (lineL d y (A - 1) ++ [10])) ++ linesL d (A - 1) n (y + 1) := by simp [linesL]
    rw [e1]
    refine Ev.step (fun k => ?_) (impl_line ho hy16 hA hA1 hL (ih (y + 1) _ (by omega) (by rw [List.length_append, List.length_append, List.length_singleton]; exact ar6 hL hlen)) A 0 [] (by omega) rfl rfl)
    simp only [impl_BayText.l0]
    rw [if_pos k1]
    rfl

def FnExactBayTextPure : Prop := ∀ (a0_0 a0_1 : Int) (a0_2 : Nat → Int), (Lit.int .i8 a0_0).wf = true → (Lit.int .i8 a0_1).wf = true → (∀ i, i < 256 → (Lit.int .i8 (a0_2 i)).wf = true) → ∃ k, laws_FnExactBayText.f k a0_0 a0_1 a0_2 = some true

theorem FnExactBayText : FnExactBayTextPure := by
  intro a b d ha hb hd
  refine Ev.rounds ?_
  obtain ⟨r, k1, k2⟩ := spec_bay (fitB ha hb hd)
  have e : r = decide (BayIn.okBay a b d) := by rw [Bool.eq_iff_iff, k2, decide_eq_true_eq]
  subst e
  obtain ⟨q, hs, hi⟩ : ∃ q : ByteArray, Ev (fun k => spec_BayText.f k a b d) q ∧ Ev (fun k => impl_BayText.f k a b d) q := by
    unfold spec_BayText.f impl_BayText.f impl_ValidBay.f
    by_cases ho : BayIn.okBay a b d
    · have h1 := ho.1
      have h3 := ho.2.2.1
      obtain ⟨A, rfl⟩ : ∃ A : Nat, a = (A : Int) := ⟨a.toNat, by omega⟩
      obtain ⟨B, rfl⟩ : ∃ B : Nat, b = (B : Int) := ⟨b.toNat, by omega⟩
      rw [decide_eq_true ho] at k1
      have hs := spec_lines ho B 0 [] (by omega) (Nat.zero_le _)
      have hi := impl_lines ho B 0 [] (by omega) (Nat.zero_le _)
      refine ⟨mk ([] ++ linesL d (A - 1) B 0), Ev.bind k1 ?_, ?_⟩
      · simp only [if_true]
        unfold spec_l01Text.f
        exact Ev.bind hs (Ev.now _)
      · simp only [decide_eq_true ho, Option.bind_some, if_true]
        exact hi
    · rw [decide_eq_false ho] at k1
      refine ⟨⟨#[]⟩, Ev.bind k1 ?_, ?_⟩
      · simp only [Bool.false_eq_true, if_false]
        exact Ev.now _
      · simp only [decide_eq_false ho, Option.bind_some, Bool.false_eq_true, if_false]
        exact Ev.now _
  simp only [laws_FnExactBayText.f, laws_toBay.f, Option.bind_some]
  refine Ev.bind hs (Ev.bind hi ?_)
  simp only [if_true]
  exact Ev.now _

end Go.Proofs.YteffdjfiialdfaaDoor.Pure
