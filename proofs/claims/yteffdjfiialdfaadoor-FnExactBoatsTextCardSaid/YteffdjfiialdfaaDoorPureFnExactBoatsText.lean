/- BoatsText of the program returns what the reference's returns, for all bays and lists of boats. Conditions: none. -/
import Derived.Test.YteffdjfiialdfaaDoorPFnExactBoatsTextx6
namespace Go.Proofs.YteffdjfiialdfaaDoor.Pure
open Go.RowKit Go.Proofs.YteffdjfiialdfaaDoor.PFnExactBoatsText Go.Proofs.YteffdjfiialdfaaDoorW.PrintWords Go.Proofs.YteffdjfiialdfaaDoorW.PrintLast
set_option linter.unusedVariables false
set_option linter.unusedSimpArgs false

theorem i8_of {n : Int} (h : (Lit.int .i8 n).wf = true) : -128 ≤ n ∧ n ≤ 127 := by
  simp [Lit.wf, IntKind.min, IntKind.max, IntKind.signed, IntKind.bits] at h
  omega
/-- What is known of a bay that came in. -/
def FitB (a b : Int) (d : Nat → Int) : Prop := (-128 ≤ a ∧ a ≤ 127) ∧ (-128 ≤ b ∧ b ≤ 127) ∧ ∀ i, i < 256 → -128 ≤ d i ∧ d i ≤ 127
theorem fitB {a b : Int} {d : Nat → Int} (ha : (Lit.int .i8 a).wf = true) (hb : (Lit.int .i8 b).wf = true) (hd : ∀ i, i < 256 → (Lit.int .i8 (d i)).wf = true) : FitB a b d := ⟨i8_of ha, i8_of hb, fun i hi => i8_of (hd i hi)⟩
theorem i8w (n : Int) (h : 0 ≤ n) (h2 : n ≤ 127) : IntKind.i8.wrap n = n := Bay.i8_wrap_le n h h2
/-- It answers whether P holds, and hands the bay back. -/
def EvR (a b : Int) (d : Nat → Int) (f : Nat → Option (Bool × Int × Int × (Nat → Int))) (P : Prop) : Prop := ∃ r : Bool, Ev f (r, a, b, d) ∧ (r = true ↔ P)
theorem EvR.step {a b : Int} {d : Nat → Int} {f g : Nat → Option (Bool × Int × Int × (Nat → Int))} {P : Prop} (h : ∀ k, g (k + 1) = f k) (k : EvR a b d f P) : EvR a b d g P := by
  obtain ⟨r, h1, h2⟩ := k
  exact ⟨r, Ev.step h h1, h2⟩
theorem EvR.iff {a b : Int} {d : Nat → Int} {f : Nat → Option (Bool × Int × Int × (Nat → Int))} {P Q : Prop} (k : EvR a b d f P) (e : P ↔ Q) : EvR a b d f Q := by
  obtain ⟨r, h1, h2⟩ := k
  exact ⟨r, h1, h2.trans e⟩
theorem EvR.no {a b : Int} {d : Nat → Int} {P : Prop} (h : ¬ P) : EvR a b d (fun _ => some (false, a, b, d)) P := ⟨false, Ev.now _, by simp [h]⟩
theorem EvR.yes {a b : Int} {d : Nat → Int} {P : Prop} (h : P) : EvR a b d (fun _ => some (true, a, b, d)) P := ⟨true, Ev.now _, by simp [h]⟩
theorem in_some (a b c : Int) : spec_l00In.f a b c = some (decide (b ≤ a ∧ a ≤ c)) := by
  unfold spec_l00In.f
  by_cases h : a ≥ b
  · rw [if_pos h]; simp [h]
  · rw [if_neg h, decide_eq_false (fun q => h q.1)]
theorem w64 {n : Int} (h : -9223372036854775808 ≤ n ∧ n ≤ 9223372036854775807) : wrap64 n = n := by unfold wrap64; omega
theorem is_some {a b : Int} {d : Nat → Int} (hf : FitB a b d) (x y : Int) (hx : -128 ≤ x ∧ x ≤ 127) (hy : -128 ≤ y ∧ y ≤ 127) : spec_l01Is.f a b d x y = some (decide ((0 ≤ x ∧ x < a) ∧ (0 ≤ y ∧ y < b)), a, b, d) := by
  unfold spec_l01Is.f
  have := hf.1
  have := hf.2.1
  rw [w64 (n := x) (by omega), w64 (n := y) (by omega), w64 (n := a) (by omega), w64 (n := b) (by omega), w64 (n := a - 1) (by omega), w64 (n := b - 1) (by omega), in_some, in_some]
  simp only [Option.bind_some]
  by_cases h1 : 0 ≤ x ∧ x ≤ a - 1
  · rw [decide_eq_true h1, if_pos rfl]
    congr 2
    rw [decide_eq_decide]
    omega
  · rw [decide_eq_false h1, if_neg (by decide)]
    congr 2
    rw [eq_comm, decide_eq_false_iff_not]
    omega
theorem okD_cell {a b : Int} {d : Nat → Int} (hf : FitB a b d) (y x : Nat) (hy : y < 16) (hx : x < 16) {f : Nat → Option (Bool × Int × Int × (Nat → Int))} {P : Prop} (k : EvR a b d f P) :
    EvR a b d (fun g => (spec_l00In.f (wrap64 (d (16 * y + x))) 0 30).bind fun t => (if t = true then (if d (16 * y + x) = 0 then f g else ((spec_l01Is.f a b d x y).bind fun q => (if q.1 = true then f g else (some (false, q.2.1, q.2.2.1, q.2.2.2))))) else (some (false, a, b, d)))) (BayIn.okD a b y x (d (16 * y + x)) ∧ P) := by
  have hd := hf.2.2 (16 * y + x) (by omega)
  rw [w64 (by omega)]
  simp only [in_some, is_some hf x y (by omega) (by omega), Option.bind_some]
  unfold BayIn.okD
  by_cases h1 : 0 ≤ d (16 * y + x) ∧ d (16 * y + x) ≤ 30
  · simp only [decide_eq_true h1, if_true]
    by_cases h2 : d (16 * y + x) = 0
    · simp only [if_pos h2]
      exact k.iff ⟨fun h => ⟨⟨h1.1, h1.2, fun q => absurd h2 q⟩, h⟩, fun h => h.2⟩
    · simp only [if_neg h2]
      by_cases h3 : (0 ≤ (x : Int) ∧ (x : Int) < a) ∧ (0 ≤ (y : Int) ∧ (y : Int) < b)
      · simp only [decide_eq_true h3, if_true]
        exact k.iff ⟨fun h => ⟨⟨h1.1, h1.2, fun _ => ⟨h3.1.2, h3.2.2⟩⟩, h⟩, fun h => h.2⟩
      · simp only [decide_eq_false h3, Bool.false_eq_true, if_false]
        exact EvR.no (fun h => h3 (by have := h.1.2.2 h2; omega))
  · simp only [decide_eq_false h1, Bool.false_eq_true, if_false]
    exact EvR.no (fun h => h1 ⟨h.1.1, h.1.2.1⟩)
theorem bay_row {a b : Int} {d : Nat → Int} (hf : FitB a b d) (y : Nat) (hy : y < 16) {P : Prop} (k : EvR a b d (fun g => spec_l01Bay.l0 g ((y + 1 : Nat) : Int) a b d) P) (n : Nat) : ∀ x : Nat, 16 = x + n →
    EvR a b d (fun g => spec_l01Bay.l1 g (y : Int) (x : Int) a b d) ((∀ j, x ≤ j → j < 16 → BayIn.okD a b y j (d (16 * y + j))) ∧ P) := by
  induction n with
  | zero =>
    intro x hx
    refine (EvR.step (fun g => ?_) k).iff ⟨fun h => ⟨fun j h1 h2 => by omega, h⟩, fun h => h.2⟩
    simp only [spec_l01Bay.l1]
    rw [if_neg (by omega), i8w _ (by omega) (by omega)]
    rfl
  | succ n ih =>
    intro x hx
    refine (EvR.step (fun g => ?_) (okD_cell hf y x hy (by omega) (ih (x + 1) (by omega)))).iff ?_
    · simp only [spec_l01Bay.l1]
      rw [if_pos (by omega), if_pos (by omega), if_pos (by omega), if_pos (by omega), i8w _ (by omega) (by omega), Int.toNat_natCast, Int.toNat_natCast]
      rw [is_some hf x y (by omega) (by omega)]
      rfl
    · refine ⟨fun h => ⟨fun j h1 h2 => ?_, h.2.2⟩, fun h => ⟨h.1 x (Nat.le_refl _) (by omega), fun j h1 h2 => h.1 j (by omega) h2, h.2⟩⟩
      by_cases e : j = x
      · rw [e]; exact h.1
      · exact h.2.1 j (by omega) h2
theorem bay_rows {a b : Int} {d : Nat → Int} (hf : FitB a b d) (n : Nat) : ∀ y : Nat, 16 = y + n → EvR a b d (fun g => spec_l01Bay.l0 g (y : Int) a b d) (∀ j, y ≤ j → j < 16 → ∀ x, x < 16 → BayIn.okD a b j x (d (16 * j + x))) := by
  induction n with
  | zero =>
    intro y hy
    refine EvR.step (fun g => ?_) (EvR.yes (fun j h1 h2 => by omega))
    simp only [spec_l01Bay.l0]
    rw [if_neg (by omega)]
  | succ n ih =>
    intro y hy
    refine (EvR.step (fun g => ?_) (bay_row hf y (by omega) (ih (y + 1) (by omega)) 16 0 (by omega))).iff ?_
    · simp only [spec_l01Bay.l0]
      rw [if_pos (by omega)]
      rfl
    · refine ⟨fun h j h1 h2 x hx => ?_, fun h => ⟨fun x _ hx => h y (Nat.le_refl _) (by omega) x hx, fun j h1 h2 => h j (by omega) h2⟩⟩
      by_cases e : j = y
      · rw [e]; exact h.1 x (by omega) hx
      · exact h.2 j (by omega) h2 x hx
/-- The reference's word on a bay. -/
theorem spec_bay {a b : Int} {d : Nat → Int} (hf : FitB a b d) : EvR a b d (fun g => spec_l01Bay.f g a b d) (BayIn.okBay a b d) := by
  have h1 := hf.1
  have h2 := hf.2.1
  have e : ∀ g, spec_l01Bay.f g a b d = spec_l01Bay.j0 g (! decide ((1 ≤ a ∧ a ≤ 16) ∧ (1 ≤ b ∧ b ≤ 16))) a b d := by
    intro g
    unfold spec_l01Bay.f
    rw [w64 (n := a) (by omega), w64 (n := b) (by omega), in_some, in_some]
    simp only [Option.bind_some]
    by_cases c1 : 1 ≤ a ∧ a ≤ 16
    · by_cases c2 : 1 ≤ b ∧ b ≤ 16 <;> simp [c1, c2]
    · simp [c1]
  obtain ⟨r, k1, k2⟩ := bay_rows hf 16 0 (by omega)
  unfold BayIn.okBay
  by_cases c : (1 ≤ a ∧ a ≤ 16) ∧ (1 ≤ b ∧ b ≤ 16)
  · rw [decide_eq_true c] at e
    refine ⟨r, Ev.congr e (Ev.step (fun g => by simp only [spec_l01Bay.j0, Bool.not_true, Bool.false_eq_true, if_false]; rfl) k1), k2.trans ?_⟩
    exact ⟨fun h => ⟨c.1.1, c.1.2, c.2.1, c.2.2, fun y hy => h y (Nat.zero_le _) hy⟩, fun h j _ hj => h.2.2.2.2 j hj⟩
  · rw [decide_eq_false c] at e
    refine ⟨false, Ev.congr e (Ev.step (f := fun _ => some (false, a, b, d)) (fun g => by simp only [spec_l01Bay.j0, Bool.not_false, if_true]) (Ev.now _)), ?_⟩
    simp only [Bool.false_eq_true, false_iff]
    intro h
    exact c ⟨⟨h.1, h.2.1⟩, h.2.2.1, h.2.2.2.1⟩

theorem toList_loop (s : ByteArray) (d : Nat) : ∀ (i : Nat) (r : List UInt8), s.size = i + d → ByteArray.toList.loop s i r = r.reverse ++ s.data.toList.drop i := by
  induction d with
  | zero =>
    intro i r h
    rw [ByteArray.toList.loop, if_neg (by omega), List.drop_of_length_le (by rw [Array.length_toList]; exact Nat.le_of_eq h)]
    simp
  | succ d ih =>
    intro i r h
    have hl : i < s.data.toList.length := by rw [Array.length_toList]; show i < s.size; omega
    rw [ByteArray.toList.loop, if_pos (by omega), ih (i + 1) _ (by omega), List.drop_eq_getElem_cons hl]
    have e : s.get! i = s.data.toList[i] := by
      show s.data[i]! = _
      rw [getElem!_pos s.data i (by simpa using hl)]
      simp
    rw [e]
    simp
theorem toList_eq (s : ByteArray) : s.toList = s.data.toList := by
  unfold ByteArray.toList
  rw [toList_loop s s.size 0 [] (by omega)]
  simp
theorem toList_inj {a b : ByteArray} (h : a.toList = b.toList) : a = b := by
  rw [toList_eq, toList_eq] at h
  exact ByteArray.ext (Array.toList_inj.1 h)

theorem ba_ext {a b : ByteArray} (h : a.data.toList = b.data.toList) : a = b := toList_inj (by rw [toList_eq, toList_eq, h])

theorem digits_len (a : Nat) : (Go.Lib.decDigits a).length ≤ a + 1 := by
  induction a using Nat.strongRecOn with
  | ind a ih =>
    unfold Go.Lib.decDigits
    split
    · simp
    · rename_i h
      rw [List.length_append, List.length_singleton]
      have := ih (a / 10) (by omega)
      omega
def dec (a : Nat) : ByteArray := ⟨(Go.Lib.decDigits a).toArray⟩
theorem dec_data (a : Nat) : (dec a).data.toList = Go.Lib.decDigits a := rfl
theorem dec_size (a : Nat) : (dec a).size ≤ a + 1 := digits_len a
theorem one_byte (n : Nat) : strOfNums [(n : Int)] = (⟨#[UInt8.ofNat n]⟩ : ByteArray) := rfl
theorem dec_snoc (a : Nat) (c : ¬ a < 10) : dec (a / 10) ++ (⟨#[UInt8.ofNat (48 + a % 10)]⟩ : ByteArray) = dec a := by
  apply toList_inj
  rw [toList_eq, toList_eq, dec_data]
  rw [show Go.Lib.decDigits a = Go.Lib.decDigits (a / 10) ++ [UInt8.ofNat (48 + a % 10)] from by rw [Go.Lib.decDigits, dif_neg c]]
  simp [dec_data]
theorem spec_dec (a : Nat) : a ≤ 1000000 → Ev (fun k => spec_Decimal.f k (a : Int)) (dec a) := by
  induction a using Nat.strongRecOn with
  | ind a ih =>
    intro h
    have e1 : Int.tmod (a : Int) 10 = ((a % 10 : Nat) : Int) := by rw [Int.tmod_eq_emod_of_nonneg (by omega)]; omega
    have e2 : wrap64 (48 + ((a % 10 : Nat) : Int)) % 256 = ((48 + a % 10 : Nat) : Int) := by unfold wrap64; omega
    have e3 : wrap64 (Int.tdiv (a : Int) 10) = ((a / 10 : Nat) : Int) := by
      rw [Int.tdiv_eq_ediv_of_nonneg (by omega)]
      unfold wrap64
      omega
    have hb := one_byte (48 + a % 10)
    by_cases c : a < 10
    · refine Ev.step (f := fun _ => some (dec a)) (fun k => ?_) (Ev.now _)
      simp only [spec_Decimal.f]
      rw [if_pos (by omega), e1, e2, hb]
      unfold dec
      rw [Go.Lib.decDigits, dif_pos c, Nat.mod_eq_of_lt c]
    · have hs := dec_size (a / 10)
      refine Ev.step (f := fun k => (spec_Decimal.f k ((a / 10 : Nat) : Int)).bind fun t => if t.size + (⟨#[UInt8.ofNat (48 + a % 10)]⟩ : ByteArray).size ≤ 9223372036854775807 then some (t ++ (⟨#[UInt8.ofNat (48 + a % 10)]⟩ : ByteArray)) else none) (fun k => ?_) (Ev.bind (ih (a / 10) (by omega) (by omega)) ?_)
      · simp only [spec_Decimal.f]
        rw [if_neg (by omega), e1, e2, e3]
        simp only [Option.bind_some, hb]
      · rw [if_pos (by have : (⟨#[UInt8.ofNat (48 + a % 10)]⟩ : ByteArray).size = 1 := rfl; omega), dec_snoc a c]
        exact Ev.now _
theorem impl_dec (a : Nat) (h : a ≤ 1000000) : impl_decimal.f (a : Int) = some (dec a) := by
  unfold impl_decimal.f strconv_FormatInt.f
  rw [if_pos ⟨rfl, by omega, by omega⟩]
  unfold Go.Lib.itoa
  rw [if_neg (by omega), Int.toNat_natCast]
  rfl
attribute [irreducible] dec

def dep (d : Nat → Int) (x y : Int) : Int := d (16 * y.toNat + x.toNat)
def OkBoat (a b : Int) (d : Nat → Int) (x y c l w q : Int) : Prop := (0 ≤ x ∧ x < a) ∧ (0 ≤ y ∧ y < b) ∧ 0 < dep d x y ∧ (1 ≤ c ∧ c ≤ 60) ∧ (0 ≤ l ∧ l ≤ 5) ∧ (1 ≤ w ∧ w ≤ 30) ∧ (0 ≤ q ∧ q ≤ 9)
instance (a b : Int) (d : Nat → Int) (x y c l w q : Int) : Decidable (OkBoat a b d x y c l w q) := by unfold OkBoat; infer_instance
theorem dep_bd {a b : Int} {d : Nat → Int} (hf : FitB a b d) {x y : Int} (hx : 0 ≤ x ∧ x < 16) (hy : 0 ≤ y ∧ y < 16) : -128 ≤ dep d x y ∧ dep d x y ≤ 127 := hf.2.2 _ (by omega)
theorem spec_depth {a b : Int} {d : Nat → Int} (hf : FitB a b d) {x y : Int} (hx : 0 ≤ x ∧ x < 16) (hy : 0 ≤ y ∧ y < 16) : spec_l01Depth.f a b d x y = some (dep d x y, a, b, d) := by
  have := dep_bd hf hx hy
  unfold spec_l01Depth.f
  rw [if_pos hy.1, if_pos hy.2, if_pos hx.1, if_pos hx.2, w64 (n := d (16 * y.toNat + x.toNat)) (by unfold dep at this; omega)]
  rfl
theorem impl_depth_at {a b : Int} {d : Nat → Int} (hf : FitB a b d) {x y : Int} (hx : 0 ≤ x ∧ x < 16) (hy : 0 ≤ y ∧ y < 16) : impl_depth.f a b d x y = some (dep d x y) := by
  have := dep_bd hf hx hy
  unfold impl_depth.f
  rw [if_pos hy.1, if_pos hy.2, if_pos hx.1, if_pos hx.2, w64 (n := d (16 * y.toNat + x.toNat)) (by unfold dep at this; omega)]
  rfl
def FitT (x y c l w q : Int) : Prop := (-128 ≤ x ∧ x ≤ 127) ∧ (-128 ≤ y ∧ y ≤ 127) ∧ (-128 ≤ c ∧ c ≤ 127) ∧ (-128 ≤ l ∧ l ≤ 127) ∧ (-128 ≤ w ∧ w ≤ 127) ∧ (-128 ≤ q ∧ q ≤ 127)
theorem spec_boat {a b : Int} {d : Nat → Int} (hf : FitB a b d) (ho : BayIn.okBay a b d) {x y c l w q : Int} (ht : FitT x y c l w q) : spec_l01Boat.f a b d x y c l w q = some (decide (OkBoat a b d x y c l w q), a, b, d) := by
  have h1 := ho.2.1
  have h2 := ho.2.2.2.1
  obtain ⟨t1, t2, t3, t4, t5, t6⟩ := ht
  unfold spec_l01Boat.f
  rw [is_some hf x y t1 t2, w64 (n := c) (by omega), w64 (n := l) (by omega), w64 (n := w) (by omega), w64 (n := q) (by omega), in_some, in_some, in_some, in_some]
  simp only [Option.bind_some]
  by_cases c1 : (0 ≤ x ∧ x < a) ∧ (0 ≤ y ∧ y < b)
  · rw [decide_eq_true c1, if_pos rfl, spec_depth hf (by omega) (by omega)]
    simp only [Option.bind_some]
    by_cases c2 : 0 < dep d x y
    · rw [if_pos c2]
      by_cases c3 : 1 ≤ c ∧ c ≤ 60
      · by_cases c4 : 0 ≤ l ∧ l ≤ 5
        · by_cases c5 : 1 ≤ w ∧ w ≤ 30
          · simp only [decide_eq_true c3, decide_eq_true c4, decide_eq_true c5, if_true]
            congr 2
            rw [decide_eq_decide]
            exact ⟨fun h => ⟨c1.1, c1.2, c2, c3, c4, c5, h⟩, fun h => h.2.2.2.2.2.2⟩
          · simp only [decide_eq_true c3, decide_eq_true c4, decide_eq_false c5, if_true, Bool.false_eq_true, if_false]
            rw [decide_eq_false (fun h : OkBoat a b d x y c l w q => c5 h.2.2.2.2.2.1)]
        · simp only [decide_eq_true c3, decide_eq_false c4, if_true, Bool.false_eq_true, if_false]
          rw [decide_eq_false (fun h : OkBoat a b d x y c l w q => c4 h.2.2.2.2.1)]
      · simp only [decide_eq_false c3, Bool.false_eq_true, if_false]
        rw [decide_eq_false (fun h : OkBoat a b d x y c l w q => c3 h.2.2.2.1)]
    · rw [if_neg c2, decide_eq_false (fun h : OkBoat a b d x y c l w q => c2 h.2.2.1)]
  · rw [decide_eq_false c1, if_neg (by decide), decide_eq_false (fun h : OkBoat a b d x y c l w q => c1 ⟨h.1, h.2.1⟩)]
theorem impl_water {a b : Int} {d : Nat → Int} (hf : FitB a b d) (ho : BayIn.okBay a b d) (x y : Int) : impl_isWater.f a b d x y = some (decide ((0 ≤ x ∧ x < a) ∧ (0 ≤ y ∧ y < b) ∧ 0 < dep d x y)) := by
  have h1 := ho.2.1
  have h2 := ho.2.2.2.1
  have e : impl_isPlace.f a b d x y = some (decide ((0 ≤ x ∧ x < a) ∧ (0 ≤ y ∧ y < b))) := by
    unfold impl_isPlace.f
    by_cases c1 : 0 ≤ x
    · by_cases c2 : x < a
      · by_cases c3 : 0 ≤ y <;> simp [c1, c2, c3]
      · simp [c1, c2]
    · simp [c1]
  unfold impl_isWater.f
  rw [e]
  simp only [Option.bind_some]
  by_cases c1 : (0 ≤ x ∧ x < a) ∧ (0 ≤ y ∧ y < b)
  · rw [decide_eq_true c1, if_pos rfl, impl_depth_at hf (by omega) (by omega)]
    simp only [Option.bind_some]
    congr 1
    rw [decide_eq_decide]
    exact ⟨fun h => ⟨c1.1, c1.2, h⟩, fun h => h.2.2⟩
  · rw [decide_eq_false c1, if_neg (by decide), decide_eq_false (fun h => c1 ⟨h.1, h.2.1⟩)]
theorem impl_boat {a b : Int} {d : Nat → Int} (hf : FitB a b d) (ho : BayIn.okBay a b d) (x y c l w q : Int) : impl_isBoat.f a b d x y c l w q = some (decide (OkBoat a b d x y c l w q)) := by
  unfold impl_isBoat.f
  rw [impl_water hf ho]
  simp only [Option.bind_some]
  by_cases c1 : (0 ≤ x ∧ x < a) ∧ (0 ≤ y ∧ y < b) ∧ 0 < dep d x y
  · rw [decide_eq_true c1, if_pos rfl]
    have e : ∀ P : Prop, [Decidable P] → (P ↔ OkBoat a b d x y c l w q) → some (decide P) = some (decide (OkBoat a b d x y c l w q)) := fun P _ h => by rw [decide_eq_decide.2 h]
    have no : ∀ P : Prop, ¬ P → (OkBoat a b d x y c l w q → P) → some false = some (decide (OkBoat a b d x y c l w q)) := fun P h k => by rw [decide_eq_false (fun q => h (k q))]
    by_cases c2 : 1 ≤ c
    · rw [if_pos c2]
      by_cases c3 : c ≤ 60
      · rw [if_pos c3]
        by_cases c4 : 0 ≤ l
        · rw [if_pos c4]
          by_cases c5 : l ≤ 5
          · rw [if_pos c5]
            by_cases c6 : 1 ≤ w
            · rw [if_pos c6]
              by_cases c7 : w ≤ 30
              · rw [if_pos c7]
                by_cases c8 : 0 ≤ q
                · rw [if_pos c8]
                  exact e _ ⟨fun h => ⟨c1.1, c1.2.1, c1.2.2, ⟨c2, c3⟩, ⟨c4, c5⟩, ⟨c6, c7⟩, c8, h⟩, fun h => h.2.2.2.2.2.2.2⟩
                · rw [if_neg c8]; exact no _ c8 (fun h => h.2.2.2.2.2.2.1)
              · rw [if_neg c7]; exact no _ c7 (fun h => h.2.2.2.2.2.1.2)
            · rw [if_neg c6]; exact no _ c6 (fun h => h.2.2.2.2.2.1.1)
          · rw [if_neg c5]; exact no _ c5 (fun h => h.2.2.2.2.1.2)
        · rw [if_neg c4]; exact no _ c4 (fun h => h.2.2.2.2.1.1)
      · rw [if_neg c3]; exact no _ c3 (fun h => h.2.2.2.1.2)
    · rw [if_neg c2]; exact no _ c2 (fun h => h.2.2.2.1.1)
  · rw [decide_eq_false c1, if_neg (by decide), decide_eq_false (fun h : OkBoat a b d x y c l w q => c1 ⟨h.1, h.2.1, h.2.2.1⟩)]

def OkB (a b : Int) (d : Nat → Int) (t : S59) : Prop := OkBoat a b d t.f0.f0 t.f0.f1 t.f1 t.f2 t.f3 t.f4
instance (a b : Int) (d : Nat → Int) (t : S59) : Decidable (OkB a b d t) := by unfold OkB; infer_instance
def FitS (t : S59) : Prop := FitT t.f0.f0 t.f0.f1 t.f1 t.f2 t.f3 t.f4
theorem rd38 {xs : List S59} {j : Nat} (h : j < xs.length) : rd_T59 xs (j : Int) = xs[j] := by
  unfold rd_T59
  rw [Int.toNat_natCast, List.getD_eq_getElem?_getD, List.getElem?_eq_getElem h]
  rfl
def okL (a b : Int) (d : Nat → Int) (l : List S59) : Bool := l.all fun t => decide (OkB a b d t)
def codeL (a b : Int) (d : Nat → Int) (l : List S59) : Int := if BayIn.okBay a b d then (if okL a b d l = true then (if (l.length : Int) > 10 then 3 else 0) else 1) else 1
theorem w64n {j : Nat} {n : Nat} (h : j < n) (hn : n ≤ 9223372036854775807) : wrap64 ((j : Int) + 1) = ((j + 1 : Nat) : Int) := by unfold wrap64; omega
theorem asked_loop {a b : Int} {d : Nat → Int} (hf : FitB a b d) (ho : BayIn.okBay a b d) (l : List S59) (hl : l.length ≤ 9223372036854775807) (ht : ∀ t ∈ l, FitS t) (n : Nat) : ∀ j : Nat, l.length = j + n →
    Ev (fun k => spec_l01Asked.l0 k l (j : Int) a b d) ((if okL a b d (l.drop j) = true then (if (l.length : Int) > 10 then 3 else 0) else 1), a, b, d) := by
  induction n with
  | zero =>
    intro j hj
    rw [List.drop_eq_nil_of_le (by omega)]
    refine Ev.step (f := fun _ => some ((if (l.length : Int) > 10 then 3 else 0), a, b, d)) (fun k => ?_) (Ev.now _)
    simp only [spec_l01Asked.l0]
    rw [if_neg (by omega)]
    split <;> rfl
  | succ n ih =>
    intro j hj
    have hlt : j < l.length := by omega
    rw [List.drop_eq_getElem_cons hlt]
    have e : okL a b d (l[j] :: l.drop (j + 1)) = (decide (OkB a b d l[j]) && okL a b d (l.drop (j + 1))) := rfl
    rw [e]
    have hb := spec_boat hf ho (x := l[j].f0.f0) (y := l[j].f0.f1) (c := l[j].f1) (l := l[j].f2) (w := l[j].f3) (q := l[j].f4) (ht _ (List.getElem_mem hlt))
    by_cases c : OkB a b d l[j]
    · rw [decide_eq_true c, Bool.true_and]
      refine Ev.step (fun k => ?_) (ih (j + 1) (by omega))
      simp only [spec_l01Asked.l0]
      rw [if_pos (by omega), if_pos (by omega), rd38 hlt, hb]
      simp only [Option.bind_some]
      rw [decide_eq_true (show OkBoat a b d _ _ _ _ _ _ from c), if_pos rfl, w64n hlt hl]
    · rw [decide_eq_false c, Bool.false_and]
      refine Ev.step (f := fun _ => some (1, a, b, d)) (fun k => ?_) (Ev.now _)
      simp only [spec_l01Asked.l0]
      rw [if_pos (by omega), if_pos (by omega), rd38 hlt, hb]
      simp only [Option.bind_some]
      rw [decide_eq_false (show ¬ OkBoat a b d _ _ _ _ _ _ from c), if_neg (by decide)]
theorem spec_asked {a b : Int} {d : Nat → Int} (hf : FitB a b d) (l : List S59) (hl : l.length ≤ 9223372036854775807) (ht : ∀ t ∈ l, FitS t) :
    Ev (fun k => spec_l01Asked.f k a b d l) (codeL a b d l, a, b, d) := by
  unfold spec_l01Asked.f codeL
  obtain ⟨r, k1, k2⟩ := spec_bay hf
  refine Ev.bind k1 ?_
  by_cases ho : BayIn.okBay a b d
  · obtain rfl := k2.2 ho
    simp only [if_true, if_pos ho]
    exact asked_loop hf ho l hl ht l.length 0 (by omega)
  · have : r = false := by cases r with | false => rfl | true => exact absurd (k2.1 rfl) ho
    subst this
    simp only [Bool.false_eq_true, if_false, if_neg ho]
    exact Ev.now _
theorem rdBoat' {xs : List S63} {j : Nat} (h : j < xs.length) : rd_T63 xs (j : Int) = xs[j] := by
  unfold rd_T63
  rw [Int.toNat_natCast, List.getD_eq_getElem?_getD, List.getElem?_eq_getElem h]
  rfl
def convBoat (x : S63) : S59 := ⟨⟨x.f0.f0, x.f0.f1⟩, x.f1, x.f2, x.f3, x.f4⟩
theorem toBoat_loop (l : List S63) (hl : l.length ≤ 1048576) (d : Nat) : ∀ (j : Nat) (x : List S59), l.length = j + d → x.length = l.length → (∀ i, i < j → x[i]? = (l[i]?).map convBoat) → ∀ k, d < k → laws_toBoatS.l0 k l x (j : Int) = some (l.map convBoat) := by
  induction d with
  | zero =>
    intro j x hj hx hi k hk
    obtain ⟨k, rfl⟩ : ∃ q, k = q + 1 := ⟨k - 1, by omega⟩
    simp only [laws_toBoatS.l0]
    rw [if_neg (by omega)]
    refine congrArg some (List.ext_getElem? fun i => ?_)
    rw [List.getElem?_map]
    by_cases h : i < j
    · exact hi i h
    · rw [List.getElem?_eq_none (by omega), List.getElem?_eq_none (by omega)]
      rfl
  | succ d ih =>
    intro j x hj hx hi k hk
    obtain ⟨k, rfl⟩ : ∃ q, k = q + 1 := ⟨k - 1, by omega⟩
    have hlt : j < l.length := by omega
    have hw : wrap64 ((j : Int) + 1) = ((j + 1 : Nat) : Int) := by unfold wrap64; omega
    simp only [laws_toBoatS.l0, hw]
    rw [if_pos (by omega), if_pos (by omega), rdBoat' hlt]
    simp only [laws_toBoat.f, laws_toPlace.f, Option.bind_some]
    rw [if_pos (by omega), Int.toNat_natCast]
    refine ih (j + 1) _ (by omega) (by rw [List.length_set]; exact hx) (fun i h => ?_) k (by omega)
    by_cases e : i = j
    · subst e
      rw [List.getElem?_set_self (by omega), List.getElem?_eq_getElem hlt]
      rfl
    · rw [List.getElem?_set_ne (by omega)]
      exact hi i (by omega)
theorem toBoat (l : List S63) (hl : l.length ≤ 1048576) : Ev (fun k => laws_toBoatS.f k l) (l.map convBoat) := by
  refine ⟨l.length + 1, fun k hk => ?_⟩
  show laws_toBoatS.f k l = _
  unfold laws_toBoatS.f
  rw [if_pos (by omega), Int.toNat_natCast, if_pos (by omega)]
  exact toBoat_loop l hl l.length 0 _ (by omega) (by simp) (fun i h => by omega) k (by omega)
theorem szBoat (l : List S63) (h : l.length ≤ 9223372036854775807) (a : Int) (ha : 0 ≤ a) (ha2 : a ≤ 1048576) : laws_szBoatS.f l a = some (if a < l.length then -1 else a - l.length) := by
  have hw : wrap64 (a - (l.length : Int)) = a - l.length := by unfold wrap64; omega
  unfold laws_szBoatS.f
  rw [hw]
  by_cases c : a < l.length
  · rw [if_pos (by omega), if_pos c]
  · rw [if_neg (by omega), if_neg c]
theorem eqBoat_loop (a : List S59) (ha : a.length ≤ 9223372036854775000) (d : Nat) : ∀ (j : Nat), a.length = j + d → ∀ k, d < k → laws_eqBoatS.l0 k a a (j : Int) = some true := by
  induction d with
  | zero =>
    intro j hj k hk
    obtain ⟨k, rfl⟩ : ∃ q, k = q + 1 := ⟨k - 1, by omega⟩
    simp only [laws_eqBoatS.l0]
    rw [if_neg (by omega)]
  | succ d ih =>
    intro j hj k hk
    obtain ⟨k, rfl⟩ : ∃ q, k = q + 1 := ⟨k - 1, by omega⟩
    have hw : wrap64 ((j : Int) + 1) = ((j + 1 : Nat) : Int) := by unfold wrap64; omega
    simp only [laws_eqBoatS.l0, hw, laws_eqBoat.f, laws_eqPlace.f, if_true, Option.bind_some]
    rw [if_pos (by omega), if_pos (by omega), if_pos (by omega)]
    exact ih (j + 1) (by omega) k (by omega)
theorem eqBoat (a : List S59) (ha : a.length ≤ 9223372036854775000) : Ev (fun k => laws_eqBoatS.f k a a) true := by
  refine ⟨a.length + 1, fun k hk => ?_⟩
  show laws_eqBoatS.f k a a = _
  unfold laws_eqBoatS.f
  rw [if_pos rfl]
  exact eqBoat_loop a ha a.length 0 (by omega) k (by omega)
theorem code_loop {a b : Int} {d : Nat → Int} (hf : FitB a b d) (ho : BayIn.okBay a b d) (l : List S59) (hl : l.length ≤ 9223372036854775807) (n : Nat) : ∀ j : Nat, l.length = j + n →
    Ev (fun k => impl_boatsCode.l0 k l l (l.length : Int) (j : Int) a b d) (if okL a b d (l.drop j) = true then (if (l.length : Int) > 10 then 3 else 0) else 1) := by
  induction n with
  | zero =>
    intro j hj
    rw [List.drop_eq_nil_of_le (by omega)]
    refine Ev.step (f := fun _ => some (if (l.length : Int) > 10 then 3 else 0)) (fun k => ?_) (Ev.now _)
    simp only [impl_boatsCode.l0]
    rw [if_neg (by omega)]
    split <;> rfl
  | succ n ih =>
    intro j hj
    have hlt : j < l.length := by omega
    rw [List.drop_eq_getElem_cons hlt]
    have e : okL a b d (l[j] :: l.drop (j + 1)) = (decide (OkB a b d l[j]) && okL a b d (l.drop (j + 1))) := rfl
    rw [e]
    have hb := impl_boat hf ho l[j].f0.f0 l[j].f0.f1 l[j].f1 l[j].f2 l[j].f3 l[j].f4
    by_cases c : OkB a b d l[j]
    · rw [decide_eq_true c, Bool.true_and]
      refine Ev.step (fun k => ?_) (ih (j + 1) (by omega))
      simp only [impl_boatsCode.l0]
      rw [if_pos (by omega), if_pos (by omega), if_pos (by omega), rd38 hlt, hb]
      simp only [Option.bind_some]
      rw [decide_eq_true (show OkBoat a b d _ _ _ _ _ _ from c), if_pos rfl, w64n hlt hl]
    · rw [decide_eq_false c, Bool.false_and]
      refine Ev.step (f := fun _ => some 1) (fun k => ?_) (Ev.now _)
      simp only [impl_boatsCode.l0]
      rw [if_pos (by omega), if_pos (by omega), if_pos (by omega), rd38 hlt, hb]
      simp only [Option.bind_some]
      rw [decide_eq_false (show ¬ OkBoat a b d _ _ _ _ _ _ from c), if_neg (by decide)]
theorem impl_codes {a b : Int} {d : Nat → Int} (hf : FitB a b d) (l : List S59) (hl : l.length ≤ 9223372036854775807) : Ev (fun k => impl_boatsCode.f k a b d l) (codeL a b d l) := by
  unfold impl_boatsCode.f impl_ValidBay.f codeL
  simp only [Option.bind_some]
  by_cases ho : BayIn.okBay a b d
  · simp only [decide_eq_true ho, if_true, if_pos ho]
    exact code_loop hf ho l hl l.length 0 (by omega)
  · simp only [decide_eq_false ho, Bool.false_eq_true, if_false, if_neg ho]
    exact Ev.now _
/-- What is known of boats whose code is 0. -/
theorem codeL_ok {a b : Int} {d : Nat → Int} {l : List S59} (h : codeL a b d l = 0) : BayIn.okBay a b d ∧ (∀ t ∈ l, OkB a b d t) ∧ l.length ≤ 10 := by
  unfold codeL at h
  by_cases ho : BayIn.okBay a b d
  · rw [if_pos ho] at h
    by_cases hk : okL a b d l = true
    · rw [if_pos hk] at h
      refine ⟨ho, fun t ht => of_decide_eq_true (List.all_eq_true.1 hk t ht), ?_⟩
      by_cases c : (l.length : Int) > 10
      · rw [if_pos c] at h; exact absurd h (by decide)
      · omega
    · rw [if_neg hk] at h; exact absurd h (by decide)
  · rw [if_neg ho] at h; exact absurd h (by decide)
theorem fits_boats (l : List S63) (h : ∀ x ∈ l, (Lit.int .i8 x.f0.f0).wf = true ∧ (Lit.int .i8 x.f0.f1).wf = true ∧ (Lit.int .i8 x.f1).wf = true ∧ (Lit.int .i8 x.f2).wf = true ∧ (Lit.int .i8 x.f3).wf = true ∧ (Lit.int .i8 x.f4).wf = true) : ∀ t ∈ l.map convBoat, FitS t := by
  intro t ht
  obtain ⟨x, hx, rfl⟩ := List.mem_map.1 ht
  obtain ⟨h1, h2, h3, h4, h5, h6⟩ := h x hx
  exact ⟨i8_of h1, i8_of h2, i8_of h3, i8_of h4, i8_of h5, i8_of h6⟩

def mk (l : List UInt8) : ByteArray := ⟨l.toArray⟩
theorem mk_app (l m : List UInt8) : mk l ++ mk m = mk (l ++ m) := ba_ext (by simp [mk])
theorem mk_size (l : List UInt8) : (mk l).size = l.length := by simp [mk, ByteArray.size]
theorem mk_list (l : List UInt8) : (mk l).data.toList = l := rfl
theorem dec_mk (a : Nat) : dec a = mk (Go.Lib.decDigits a) := ba_ext (by rw [dec_data, mk_list])
def D (v : Int) : List UInt8 := Go.Lib.decDigits v.toNat
def Small (v : Int) : Prop := 0 ≤ v ∧ v ≤ 100
theorem small_facts {v : Int} (h : Small v) : ∃ c : Nat, v = (c : Int) ∧ wrap64 v = (c : Int) ∧ c ≤ 1000000 ∧ dec c = mk (D v) ∧ (D v).length ≤ 101 := by
  obtain ⟨c, hc⟩ : ∃ c : Nat, v = (c : Int) := ⟨v.toNat, by have := h.1; omega⟩
  have h1 : c ≤ 100 := by have := h.2; omega
  have hl := digits_len c
  refine ⟨c, hc, by rw [hc]; unfold wrap64; omega, by omega, ?_, ?_⟩
  · unfold D
    rw [hc, Int.toNat_natCast, dec_mk]
  · unfold D
    rw [hc, Int.toNat_natCast]
    omega
def SmallB (t : S59) : Prop := (Small t.f0.f0 ∧ Small t.f0.f1) ∧ Small t.f1 ∧ Small t.f2 ∧ Small t.f3 ∧ Small t.f4
def tailL (xs : List Int) : List UInt8 := (xs.map fun v => 32 :: D v).flatten
def elL (t : S59) : List UInt8 := D t.f0.f0 ++ [44] ++ D t.f0.f1 ++ tailL [t.f1, t.f2, t.f3, t.f4] ++ [10]
def boatsL (l : List S59) : List UInt8 := (l.map elL).flatten
theorem m44 : (⟨#[44]⟩ : ByteArray) = mk [44] := rfl
theorem m32 : (⟨#[32]⟩ : ByteArray) = mk [32] := rfl
theorem m10 : (⟨#[10]⟩ : ByteArray) = mk [10] := rfl
theorem Ev.late {α : Type} {g f : Nat → Option α} {a : α} (K : Nat) (h : ∀ k, K ≤ k → g (k + 1) = f k) (e : Ev f a) : Ev g a := by
  obtain ⟨M, hM⟩ := e
  refine ⟨max K M + 1, fun k hk => ?_⟩
  obtain ⟨q, rfl⟩ : ∃ q, k = q + 1 := ⟨k - 1, by omega⟩
  rw [h q (by omega)]
  exact hM q (by omega)
theorem gr1 {L j z : Nat} (h : (L : Int) ≤ 1000 * (j : Int)) (hz : z ≤ 700) : ((L + z : Nat) : Int) ≤ 1000 * ((j + 1 : Nat) : Int) := by omega
theorem gr2 {L j z : Nat} (h : (L : Int) ≤ 1000 * (j : Int)) (hz : z ≤ 2000) (hj : j < 10) : L + z ≤ 9223372036854775807 := by omega
theorem elL_len {t : S59} (h : SmallB t) : (elL t).length ≤ 700 := by
  obtain ⟨⟨h0, h1⟩, h2, h3, h4, h5⟩ := h
  obtain ⟨_, _, _, _, _, l0⟩ := small_facts h0
  obtain ⟨_, _, _, _, _, l1⟩ := small_facts h1
  obtain ⟨_, _, _, _, _, l2⟩ := small_facts h2
  obtain ⟨_, _, _, _, _, l3⟩ := small_facts h3
  obtain ⟨_, _, _, _, _, l4⟩ := small_facts h4
  obtain ⟨_, _, _, _, _, l5⟩ := small_facts h5
  unfold elL tailL
  simp only [List.map_cons, List.map_nil, List.flatten_cons, List.flatten_nil, List.length_append, List.length_cons, List.length_nil]
  omega
theorem spec_boats_loop (l : List S59) (hl : l.length ≤ 10) (hs : ∀ t ∈ l, SmallB t) (n : Nat) : ∀ (j : Nat) (L : List UInt8), l.length = j + n → (L.length : Int) ≤ 1000 * (j : Int) → Ev (fun k => spec_l01Boats.l0 k l (mk L) (j : Int)) (mk (L ++ boatsL (l.drop j))) := by
  induction n with
  | zero =>
    intro j L hj hL
    have k1 : ¬ (j : Int) < (l.length : Int) := by omega
    refine Ev.step (f := fun _ => some (mk L)) (fun k => ?_) (by rw [List.drop_of_length_le (by omega)]; simp only [boatsL, List.map_nil, List.flatten_nil, List.append_nil]; exact Ev.now _)
    simp only [spec_l01Boats.l0]
    rw [if_neg k1]
  | succ n ih =>
    intro j L hj hL
    have hlt : j < l.length := by omega
    have k1 : (j : Int) < (l.length : Int) := by omega
    have k2 : 0 ≤ (j : Int) := by omega
    have hj10 : j < 10 := by omega
    have hw : wrap64 ((j : Int) + 1) = ((j + 1 : Nat) : Int) := by unfold wrap64; omega
    have ht := hs _ (List.getElem_mem hlt)
    have hlen := elL_len ht
    have hq := ih (j + 1) (L ++ elL l[j]) (by omega) (by rw [List.length_append]; exact gr1 hL hlen)
    rw [List.drop_eq_getElem_cons hlt, show L ++ boatsL (l[j] :: l.drop (j + 1)) = (L ++ elL l[j]) ++ boatsL (l.drop (j + 1)) from by unfold boatsL; rw [List.map_cons, List.flatten_cons, List.append_assoc]]
    obtain ⟨⟨h0, h1⟩, h2, h3, h4, h5⟩ := ht
    obtain ⟨c0, _, w0, b0, d0, l0⟩ := small_facts h0
    obtain ⟨c1, _, w1, b1, d1, l1⟩ := small_facts h1
    obtain ⟨c2, _, w2, b2, d2, l2⟩ := small_facts h2
    obtain ⟨c3, _, w3, b3, d3, l3⟩ := small_facts h3
    obtain ⟨c4, _, w4, b4, d4, l4⟩ := small_facts h4
    obtain ⟨c5, _, w5, b5, d5, l5⟩ := small_facts h5
    obtain ⟨K0, e0⟩ := spec_dec c0 b0
    obtain ⟨K1, e1⟩ := spec_dec c1 b1
    obtain ⟨K2, e2⟩ := spec_dec c2 b2
    obtain ⟨K3, e3⟩ := spec_dec c3 b3
    obtain ⟨K4, e4⟩ := spec_dec c4 b4
    obtain ⟨K5, e5⟩ := spec_dec c5 b5
    have hsum : L.length + 700 ≤ 9223372036854775807 := gr2 hL (by omega) hj10
    refine Ev.late (K0 + K1 + K2 + K3 + K4 + K5) (fun k hk => ?_) hq
    have f0 : spec_Decimal.f k (c0 : Int) = some (dec c0) := e0 k (by omega)
    have f1 : spec_Decimal.f k (c1 : Int) = some (dec c1) := e1 k (by omega)
    have f2 : spec_Decimal.f k (c2 : Int) = some (dec c2) := e2 k (by omega)
    have f3 : spec_Decimal.f k (c3 : Int) = some (dec c3) := e3 k (by omega)
    have f4 : spec_Decimal.f k (c4 : Int) = some (dec c4) := e4 k (by omega)
    have f5 : spec_Decimal.f k (c5 : Int) = some (dec c5) := e5 k (by omega)
    rw [d0] at f0
    rw [d1] at f1
    rw [d2] at f2
    rw [d3] at f3
    rw [d4] at f4
    rw [d5] at f5
    clear hk e0 e1 e2 e3 e4 e5 d0 d1 d2 d3 d4 d5 b0 b1 b2 b3 b4 b5 hq ih hlen hs
    simp only [spec_l01Boats.l0]
    rw [if_pos k1, if_pos k2, rd38 hlt, w0, w1, w2, w3, w4, w5, f0, f1, f2, f3, f4, f5, hw]
    simp only [Option.bind_some, m44, m32, m10, mk_app, mk_size, List.length_append, List.length_cons, List.length_nil]
    clear w0 w1 w2 w3 w4 w5 f0 f1 f2 f3 f4 f5 k1 k2 hw h0 h1 h2 h3 h4 h5
    repeat (rw [if_pos (by omega)])
    congr 1
    congr 1
    simp [elL, tailL]
theorem impl_tail (l : List S59) (n j : Int) (xs : List Int) (hx : xs.length ≤ 4) (hs : ∀ v ∈ xs, Small v) (q : ByteArray) (d : Nat) : ∀ (i : Nat) (L : List UInt8), xs.length = i + d → (L.length : Int) ≤ 20000 + 1000 * (i : Int) →
    Ev (fun k => impl_BoatsText.l0 k (mk (L ++ tailL (xs.drop i) ++ [10])) l n (wrap64 (j + 1))) q → Ev (fun k => impl_BoatsText.l1 k (mk L) l n j xs (xs.length : Int) (i : Int)) q := by
  induction d with
  | zero =>
    intro i L hi hL hq
    rw [List.drop_of_length_le (by omega), show L ++ tailL [] ++ [10] = L ++ [10] from by simp [tailL]] at hq
    have k1 : ¬ (i : Int) < (xs.length : Int) := by omega
    have k2 : (mk L).size + 1 ≤ 9223372036854775807 := by rw [mk_size]; omega
    refine Ev.step (fun k => ?_) hq
    simp only [impl_BoatsText.l1]
    rw [if_neg k1, if_pos k2, m10, mk_app]
  | succ d ih =>
    intro i L hi hL hq
    have hlt : i < xs.length := by omega
    obtain ⟨c, _, w, b, dd, ll⟩ := small_facts (hs _ (List.getElem_mem hlt))
    have hr : rd xs (i : Int) = xs[i] := by
      unfold rd
      rw [Int.toNat_natCast, List.getD_eq_getElem?_getD, List.getElem?_eq_getElem hlt]
      rfl
    have k1 : (i : Int) < (xs.length : Int) := by omega
    have k2 : 0 ≤ (i : Int) := by omega
    have hw : wrap64 ((i : Int) + 1) = ((i + 1 : Nat) : Int) := by unfold wrap64; omega
    have e : L ++ tailL (xs.drop i) ++ [10] = (L ++ ([32] ++ D xs[i])) ++ tailL (xs.drop (i + 1)) ++ [10] := by
      rw [List.drop_eq_getElem_cons hlt]
      unfold tailL
      rw [List.map_cons, List.flatten_cons]
      simp only [List.append_assoc, List.cons_append, List.nil_append]
    rw [e] at hq
    have hlen : (((L ++ ([32] ++ D xs[i])).length : Nat) : Int) ≤ 20000 + 1000 * ((i + 1 : Nat) : Int) := by
      rw [List.length_append, List.length_append, List.length_singleton]
      omega
    have k3 : 1 + (mk (D xs[i])).size ≤ 9223372036854775807 := by rw [mk_size]; omega
    have k4 : (mk L).size + (mk ([32] ++ D xs[i])).size ≤ 9223372036854775807 := by rw [mk_size, mk_size, List.length_append, List.length_singleton]; omega
    refine Ev.step (fun k => ?_) (ih (i + 1) (L ++ ([32] ++ D xs[i])) (by omega) hlen hq)
    simp only [impl_BoatsText.l1]
    rw [if_pos k1, if_pos k2, if_pos k1, hr, w, impl_dec c b, dd]
    simp only [Option.bind_some]
    rw [if_pos k3, m32, mk_app, if_pos k4, mk_app, hw]
theorem impl_boats_loop (l : List S59) (hl : l.length ≤ 10) (hs : ∀ t ∈ l, SmallB t) (n : Nat) : ∀ (j : Nat) (L : List UInt8), l.length = j + n → (L.length : Int) ≤ 1000 * (j : Int) → Ev (fun k => impl_BoatsText.l0 k (mk L) l (l.length : Int) (j : Int)) (mk (L ++ boatsL (l.drop j))) := by
  induction n with
  | zero =>
    intro j L hj hL
    have k1 : ¬ (j : Int) < (l.length : Int) := by omega
    refine Ev.step (f := fun _ => some (mk L)) (fun k => ?_) (by rw [List.drop_of_length_le (by omega)]; simp only [boatsL, List.map_nil, List.flatten_nil, List.append_nil]; exact Ev.now _)
    simp only [impl_BoatsText.l0]
    rw [if_neg k1]
  | succ n ih =>
    intro j L hj hL
    have hlt : j < l.length := by omega
    have k1 : (j : Int) < (l.length : Int) := by omega
    have k2 : 0 ≤ (j : Int) := by omega
    have hj10 : j < 10 := by omega
    have hw : wrap64 ((j : Int) + 1) = ((j + 1 : Nat) : Int) := by unfold wrap64; omega
    have ht := hs _ (List.getElem_mem hlt)
    have hlen := elL_len ht
    have hq := ih (j + 1) (L ++ elL l[j]) (by omega) (by rw [List.length_append]; exact gr1 hL hlen)
    rw [List.drop_eq_getElem_cons hlt, show L ++ boatsL (l[j] :: l.drop (j + 1)) = (L ++ elL l[j]) ++ boatsL (l.drop (j + 1)) from by unfold boatsL; rw [List.map_cons, List.flatten_cons, List.append_assoc]]
    obtain ⟨⟨h0, h1⟩, h2, h3, h4, h5⟩ := ht
    obtain ⟨c0, _, w0, b0, d0, l0⟩ := small_facts h0
    obtain ⟨c1, _, w1, b1, d1, l1⟩ := small_facts h1
    have ep : impl_placeText.f l[j].f0.f0 l[j].f0.f1 = some (mk (D l[j].f0.f0 ++ [44] ++ D l[j].f0.f1)) := by
      unfold impl_placeText.f
      rw [w0, w1, impl_dec c0 b0, impl_dec c1 b1, d0, d1]
      simp only [Option.bind_some, m44, mk_app, mk_size, List.length_append, List.length_singleton]
      rw [if_pos (by omega), if_pos (by omega)]
    have k3 : (mk L).size + (mk (D l[j].f0.f0 ++ [44] ++ D l[j].f0.f1)).size ≤ 9223372036854775807 := by
      rw [mk_size, mk_size, List.length_append, List.length_append, List.length_singleton]
      exact gr2 hL (by omega) hj10
    have hL2 : (((L ++ (D l[j].f0.f0 ++ [44] ++ D l[j].f0.f1)).length : Nat) : Int) ≤ 20000 + 1000 * ((0 : Nat) : Int) := by
      rw [List.length_append, List.length_append, List.length_append, List.length_singleton]
      clear hq ih ep k3
      omega
    have hsm : ∀ v ∈ [l[j].f1, l[j].f2, l[j].f3, l[j].f4], Small v := by
      intro v hv
      simp only [List.mem_cons, List.mem_nil_iff, or_false] at hv
      rcases hv with rfl | rfl | rfl | rfl
      · exact h2
      · exact h3
      · exact h4
      · exact h5
    have hq2 := impl_tail l (l.length : Int) (j : Int) [l[j].f1, l[j].f2, l[j].f3, l[j].f4] (Nat.le_refl _) hsm _ 4 0 (L ++ (D l[j].f0.f0 ++ [44] ++ D l[j].f0.f1)) rfl hL2 (by
      rw [List.drop_zero, hw, show L ++ (D l[j].f0.f0 ++ [44] ++ D l[j].f0.f1) ++ tailL [l[j].f1, l[j].f2, l[j].f3, l[j].f4] ++ [10] = L ++ elL l[j] from by simp [elL]]
      exact hq)
    refine Ev.step (fun k => ?_) hq2
    simp only [impl_BoatsText.l0]
    rw [if_pos k1, if_pos k2, if_pos k1, rd38 hlt, ep]
    simp only [Option.bind_some]
    rw [if_pos k3, mk_app]
    rfl
theorem small_of {a b : Int} {d : Nat → Int} (ho : BayIn.okBay a b d) {t : S59} (h : OkB a b d t) : SmallB t := by
  have h1 := ho.2.1
  have h2 := ho.2.2.2.1
  obtain ⟨k1, k2, k3, k4, k5, k6, k7⟩ := h
  exact ⟨⟨⟨by omega, by omega⟩, ⟨by omega, by omega⟩⟩, ⟨by omega, by omega⟩, ⟨by omega, by omega⟩, ⟨by omega, by omega⟩, ⟨by omega, by omega⟩⟩

def FnExactBoatsTextPure : Prop := ∀ (a0_0 a0_1 : Int) (a0_2 : Nat → Int) (l1 : List S63), (Lit.int .i8 a0_0).wf = true → (Lit.int .i8 a0_1).wf = true → (∀ i, i < 256 → (Lit.int .i8 (a0_2 i)).wf = true) → l1.length ≤ 9223372036854775807 → (∀ x ∈ l1, (Lit.int .i8 x.f0.f0).wf = true ∧ (Lit.int .i8 x.f0.f1).wf = true ∧ (Lit.int .i8 x.f1).wf = true ∧ (Lit.int .i8 x.f2).wf = true ∧ (Lit.int .i8 x.f3).wf = true ∧ (Lit.int .i8 x.f4).wf = true) → ∃ k, laws_FnExactBoatsText.f k a0_0 a0_1 a0_2 l1 = some true

theorem FnExactBoatsText : FnExactBoatsTextPure := by
  intro a b d l ha hb hd hl hw
  refine Ev.rounds ?_
  have hf := fitB ha hb hd
  have hsz := szBoat l hl 1048576 (by omega) (by omega)
  by_cases hlen : (1048576 : Int) < l.length
  · refine Ev.congr (f := fun _ => some true) (fun k => ?_) (Ev.now _)
    unfold laws_FnExactBoatsText.f
    rw [hsz, if_pos hlen]
    rfl
  · have hl2 : l.length ≤ 1048576 := by omega
    have hl3 : (l.map convBoat).length ≤ 1048576 := by rw [List.length_map]; exact hl2
    have ht := toBoat l hl2
    have hfs := fits_boats l hw
    have s := spec_asked hf (l.map convBoat) (by omega) hfs
    have i := impl_codes hf (l.map convBoat) (by omega)
    have el := eqBoat (l.map convBoat) (by omega)
    obtain ⟨q, hs, hi⟩ : ∃ q : ByteArray, Ev (fun k => spec_BoatsText.f k a b d (l.map convBoat)) q ∧ Ev (fun k => impl_BoatsText.f k a b d (l.map convBoat)) q := by
      unfold spec_BoatsText.f impl_BoatsText.f
      by_cases c0 : codeL a b d (l.map convBoat) = 0
      · obtain ⟨ho, hk, hn⟩ := codeL_ok c0
        have hsm : ∀ t ∈ l.map convBoat, SmallB t := fun t ht => small_of ho (hk t ht)
        have h1 := spec_boats_loop (l.map convBoat) hn hsm (l.map convBoat).length 0 [] (by omega) (by simp)
        have h2 := impl_boats_loop (l.map convBoat) hn hsm (l.map convBoat).length 0 [] (by omega) (by simp)
        refine ⟨mk ([] ++ boatsL ((l.map convBoat).drop 0)), Ev.bind s ?_, Ev.bind i ?_⟩
        · simp only [if_pos c0]
          unfold spec_l01Boats.f
          exact Ev.bind h1 (Ev.now _)
        · simp only [if_pos c0]
          exact h2
      · refine ⟨⟨#[]⟩, Ev.bind s ?_, Ev.bind i ?_⟩
        · simp only [if_neg c0]
          exact Ev.now _
        · simp only [if_neg c0]
          exact Ev.now _
    simp only [laws_FnExactBoatsText.f, laws_toBay.f, hsz, if_neg hlen, Option.bind_some, if_neg (show ¬ ((1048576 : Int) - l.length < 0) from by omega)]
    refine Ev.bind ht (Ev.bind hs (Ev.bind ht (Ev.bind hi ?_)))
    simp only [if_true]
    refine Ev.bind ht (Ev.bind el ?_)
    simp only [if_true]
    exact Ev.now _

end Go.Proofs.YteffdjfiialdfaaDoor.Pure
