/- WithoutChain of the program answers what the reference's answers, for all arguments. Conditions: none. -/
import Derived.Test.YtapbfobhnbcpdaaPFnExactWithoutChainx7
namespace Go.Proofs.Ytapbfobhnbcpdaa.Pure
open Go.RowKit Go.Proofs.Ytapbfobhnbcpdaa.PFnExactWithoutChain Go.Proofs.YtapbfobhnbcpdaaW.PrintWords Go.Proofs.YtapbfobhnbcpdaaW.PrintLast

namespace W
/-- From some number of rounds on it answers a truth value: whether P holds. -/
def EvB (g : Nat → Option Bool) (P : Prop) : Prop := ∃ b, Ev g b ∧ (b = true ↔ P)
theorem EvB.iff {g : Nat → Option Bool} {P Q : Prop} (h : EvB g P) (e : P ↔ Q) : EvB g Q := by
  obtain ⟨b, h1, h2⟩ := h
  exact ⟨b, h1, h2.trans e⟩
theorem EvB.step {g f : Nat → Option Bool} {P : Prop} (h : ∀ k, g (k + 1) = f k) (k : EvB f P) : EvB g P := by
  obtain ⟨b, h1, h2⟩ := k
  exact ⟨b, Ev.step h h1, h2⟩
theorem EvB.congr {g f : Nat → Option Bool} {P : Prop} (h : ∀ k, g k = f k) (k : EvB f P) : EvB g P := by
  obtain ⟨b, h1, h2⟩ := k
  exact ⟨b, Ev.congr h h1, h2⟩
theorem EvB.yes {P : Prop} (h : P) : EvB (fun _ => some true) P := ⟨true, Ev.now _, by simp [h]⟩
theorem EvB.no {P : Prop} (h : ¬ P) : EvB (fun _ => some false) P := ⟨false, Ev.now _, by simp [h]⟩
theorem EvB.bind {α : Type} {g : Nat → Option α} {f : Nat → α → Option Bool} {a : α} {P : Prop} (h : Ev g a) (k : EvB (fun n => f n a) P) : EvB (fun n => (g n).bind (f n)) P := by
  obtain ⟨b, h1, h2⟩ := k
  exact ⟨b, Ev.bind h h1, h2⟩
theorem EvB.same {g f : Nat → Option Bool} {P : Prop} (h : EvB g P) (k : EvB f P) : ∃ b, Ev g b ∧ Ev f b ∧ (b = true ↔ P) := by
  obtain ⟨b, h1, h2⟩ := h
  obtain ⟨c, h3, h4⟩ := k
  have e : c = b := by rw [Bool.eq_iff_iff, h4, h2]
  subst e
  exact ⟨c, h1, h3, h2⟩

/-! ### Cover -/
theorem rdCover {xs : List S50} {j : Nat} (h : j < xs.length) : rd_T50 xs (j : Int) = xs[j] := by
  unfold rd_T50
  rw [Int.toNat_natCast, List.getD_eq_getElem?_getD, List.getElem?_eq_getElem h]
  rfl
theorem rdCover' {xs : List S52} {j : Nat} (h : j < xs.length) : rd_T52 xs (j : Int) = xs[j] := by
  unfold rd_T52
  rw [Int.toNat_natCast, List.getD_eq_getElem?_getD, List.getElem?_eq_getElem h]
  rfl
def convCover (x : S52) : S50 := ⟨x.f0, x.f1⟩
theorem toCover_loop (l : List S52) (hl : l.length ≤ 1048576) (d : Nat) : ∀ (j : Nat) (x : List S50), l.length = j + d → x.length = l.length → (∀ i, i < j → x[i]? = (l[i]?).map convCover) → ∀ k, d < k → laws_toCoverS.l0 k l x (j : Int) = some (l.map convCover) := by
  induction d with
  | zero =>
    intro j x hj hx hi k hk
    obtain ⟨k, rfl⟩ : ∃ q, k = q + 1 := ⟨k - 1, by omega⟩
    simp only [laws_toCoverS.l0]
    rw [if_neg (by omega)]
    refine congrArg some (List.ext_getElem? fun i => ?_)
    rw [List.getElem?_map]
    by_cases h : i < j
    · exact hi i h
    · rw [List.getElem?_eq_none (by omega), List.getElem?_eq_none (by omega)]
      rfl
  | succ d ih =>
    intro j x hj hx hi k hk
    obtain ⟨k, rfl⟩ : ∃ q, k = q + 1 := ⟨k - 1, by omega⟩
    have hlt : j < l.length := by omega
    have hw : wrap64 ((j : Int) + 1) = ((j + 1 : Nat) : Int) := by unfold wrap64; omega
    simp only [laws_toCoverS.l0, hw]
    rw [if_pos (by omega), if_pos (by omega), rdCover' hlt]
    simp only [laws_toCover.f, Option.bind_some]
    rw [if_pos (by omega), Int.toNat_natCast]
    refine ih (j + 1) _ (by omega) (by rw [List.length_set]; exact hx) (fun i h => ?_) k (by omega)
    by_cases e : i = j
    · subst e
      rw [List.getElem?_set_self (by omega), List.getElem?_eq_getElem hlt]
      rfl
    · rw [List.getElem?_set_ne (by omega)]
      exact hi i (by omega)
theorem toCover (l : List S52) (hl : l.length ≤ 1048576) : Ev (fun k => laws_toCoverS.f k l) (l.map convCover) := by
  refine ⟨l.length + 1, fun k hk => ?_⟩
  show laws_toCoverS.f k l = _
  unfold laws_toCoverS.f
  rw [if_pos (by omega), Int.toNat_natCast, if_pos (by omega)]
  exact toCover_loop l hl l.length 0 _ (by omega) (by simp) (fun i h => by omega) k (by omega)
theorem szCover (l : List S52) (h : l.length ≤ 9223372036854775807) (a : Int) (ha : 0 ≤ a) (ha2 : a ≤ 1048576) : laws_szCoverS.f l a = some (if a < l.length then -1 else a - l.length) := by
  have hw : wrap64 (a - (l.length : Int)) = a - l.length := by unfold wrap64; omega
  unfold laws_szCoverS.f
  rw [hw]
  by_cases c : a < l.length
  · rw [if_pos (by omega), if_pos c]
  · rw [if_neg (by omega), if_neg c]
theorem eqCover_loop (a : List S50) (ha : a.length ≤ 9223372036854775000) (d : Nat) : ∀ (j : Nat), a.length = j + d → ∀ k, d < k → laws_eqCoverS.l0 k a a (j : Int) = some true := by
  induction d with
  | zero =>
    intro j hj k hk
    obtain ⟨k, rfl⟩ : ∃ q, k = q + 1 := ⟨k - 1, by omega⟩
    simp only [laws_eqCoverS.l0]
    rw [if_neg (by omega)]
  | succ d ih =>
    intro j hj k hk
    obtain ⟨k, rfl⟩ : ∃ q, k = q + 1 := ⟨k - 1, by omega⟩
    have hw : wrap64 ((j : Int) + 1) = ((j + 1 : Nat) : Int) := by unfold wrap64; omega
    simp only [laws_eqCoverS.l0, hw, laws_eqCover.f, if_true, Option.bind_some]
    rw [if_pos (by omega), if_pos (by omega), if_pos (by omega)]
    exact ih (j + 1) (by omega) k (by omega)
theorem eqCover (a : List S50) (ha : a.length ≤ 9223372036854775000) : Ev (fun k => laws_eqCoverS.f k a a) true := by
  refine ⟨a.length + 1, fun k hk => ?_⟩
  show laws_eqCoverS.f k a a = _
  unfold laws_eqCoverS.f
  rw [if_pos rfl]
  exact eqCover_loop a ha a.length 0 (by omega) k (by omega)
/-- What the mark writes at number m. -/
def mkCover (m : Int) : S50 := ⟨IntKind.i8.wrap (m), IntKind.i8.wrap (m + 1)⟩
theorem markCover_loop (d : Nat) : ∀ (j : Nat) (x : List S50) (m : Int), x.length = j + d → x.length ≤ 1099511627776 → 0 ≤ m → m + 2 * d ≤ 1099511627776000 →
    ∃ x', (∀ k, d < k → laws_markCoverS.l0 k x m (j : Int) = some (m + 2 * d, x')) ∧ x'.length = x.length ∧ (∀ i, i < j → x'[i]? = x[i]?) ∧ ∀ i, j ≤ i → i < x.length → x'[i]? = some (mkCover (m + 2 * (i - j))) := by
  induction d with
  | zero =>
    intro j x m hj hx h0 hm
    refine ⟨x, fun k hk => ?_, rfl, fun _ _ => rfl, fun i h1 h2 => by omega⟩
    obtain ⟨k, rfl⟩ : ∃ q, k = q + 1 := ⟨k - 1, by omega⟩
    simp only [laws_markCoverS.l0]
    rw [if_neg (by omega)]
    simp
  | succ d ih =>
    intro j x m hj hx h0 hm
    have hlt : j < x.length := by omega
    have hw : wrap64 ((j : Int) + 1) = ((j + 1 : Nat) : Int) := by unfold wrap64; omega
    have w1 : wrap64 (m + 1) = m + 1 := by unfold wrap64; omega
    have w2 : wrap64 (m + 2) = m + 2 := by unfold wrap64; omega
    have v1 : wrap64 (m + 1 + 1) = m + 2 := by unfold wrap64; omega
    obtain ⟨x', h1, h2, h3, h4⟩ := ih (j + 1) (x.set j (mkCover m)) (m + 2) (by rw [List.length_set]; omega) (by rw [List.length_set]; exact hx) (by omega) (by omega)
    refine ⟨x', fun k hk => ?_, by rw [h2, List.length_set], fun i h => ?_, fun i h h' => ?_⟩
    · obtain ⟨k, rfl⟩ : ∃ q, k = q + 1 := ⟨k - 1, by omega⟩
      have e : m + 2 * ((d + 1 : Nat) : Int) = m + 2 + 2 * (d : Int) := by omega
      rw [e, ← h1 k (by omega)]
      simp only [laws_markCoverS.l0, hw, w1, v1, Int.toNat_natCast, Option.bind_some]
      rw [if_pos (by omega), if_pos (by omega)]
      simp [rd_T50, hlt, mkCover]
    · rw [h3 i (by omega), List.getElem?_set_ne (by omega)]
    · by_cases c : i = j
      · subst c
        rw [h3 i (by omega), List.getElem?_set_self hlt, Int.sub_self, Int.mul_zero, Int.add_zero]
      · rw [h4 i (by omega) (by rw [List.length_set]; exact h')]
        congr 2
        omega
theorem heldCover_loop (d : Nat) : ∀ (j : Nat) (x : List S50) (m : Int), x.length = j + d → x.length ≤ 1099511627776 → 0 ≤ m → m + 2 * d ≤ 1099511627776000 → (∀ i, j ≤ i → i < x.length → x[i]? = some (mkCover (m + 2 * (i - j)))) →
    ∀ k, d < k → laws_heldCoverS.l0 k x m (j : Int) = some (m + 2 * d) := by
  induction d with
  | zero =>
    intro j x m hj hx h0 hm hi k hk
    obtain ⟨k, rfl⟩ : ∃ q, k = q + 1 := ⟨k - 1, by omega⟩
    simp only [laws_heldCoverS.l0]
    rw [if_neg (by omega)]
    simp
  | succ d ih =>
    intro j x m hj hx h0 hm hi k hk
    obtain ⟨k, rfl⟩ : ∃ q, k = q + 1 := ⟨k - 1, by omega⟩
    have hlt : j < x.length := by omega
    have hw : wrap64 ((j : Int) + 1) = ((j + 1 : Nat) : Int) := by unfold wrap64; omega
    have w1 : wrap64 (m + 1) = m + 1 := by unfold wrap64; omega
    have w2 : wrap64 (m + 2) = m + 2 := by unfold wrap64; omega
    have v1 : wrap64 (m + 1 + 1) = m + 2 := by unfold wrap64; omega
    have hr : rd_T50 x (j : Int) = mkCover m := by
      have h := hi j (Nat.le_refl _) hlt
      rw [Int.sub_self, Int.mul_zero, Int.add_zero] at h
      unfold rd_T50
      rw [Int.toNat_natCast, List.getD_eq_getElem?_getD, h]
      rfl
    have e : m + 2 * ((d + 1 : Nat) : Int) = m + 2 + 2 * (d : Int) := by omega
    rw [e, ← ih (j + 1) x (m + 2) (by omega) hx (by omega) (by omega) (fun i h h' => by rw [hi i (by omega) h']; congr 2; omega) k (by omega)]
    simp only [laws_heldCoverS.l0, hw, w1, v1, hr]
    rw [if_pos (by omega), if_pos (by omega)]
    simp [mkCover]
/-- A slice is marked, and holds the marks. -/
theorem markCover (x : List S50) (hx : x.length ≤ 1048576) : ∃ m x', Ev (fun k => laws_markCoverS.f k x 1) (m, x') ∧ 0 ≤ m ∧ Ev (fun k => laws_heldCoverS.f k x' 1) m := by
  obtain ⟨x', h1, h2, h3, h4⟩ := markCover_loop x.length 0 x 1 (by omega) (by omega) (by omega) (by omega)
  refine ⟨1 + 2 * x.length, x', ⟨x.length + 1, fun k hk => h1 k (by omega)⟩, by omega, ⟨x.length + 1, fun k hk => ?_⟩⟩
  exact heldCover_loop x.length 0 x' 1 (by omega) (by omega) (by omega) (by omega) (fun i h h' => h4 i h (by omega)) k (by omega)

theorem i8_of {n : Int} (h : (Lit.int .i8 n).wf = true) : -128 ≤ n ∧ n ≤ 127 := by
  simp [Lit.wf, IntKind.min, IntKind.max, IntKind.signed, IntKind.bits] at h
  omega
/-- Cover i of a list is right. -/
def goodAt (c : Int) (l : List S50) (i : Nat) : Prop := ∀ x, l[i]? = some x → (0 ≤ x.f0 ∧ x.f0 < c) ∧ (0 ≤ x.f1 ∧ x.f1 < c) ∧ x.f0 ≠ x.f1 ∧ ∀ j, j < i → l[j]? ≠ some x
def Fits (l : List S50) : Prop := ∀ x ∈ l, (-128 ≤ x.f0 ∧ x.f0 ≤ 127) ∧ (-128 ≤ x.f1 ∧ x.f1 ≤ 127)
theorem in_some (a b c : Int) : spec_l00In.f a b c = some (decide (b ≤ a ∧ a ≤ c)) := by
  unfold spec_l00In.f
  by_cases h : a ≥ b
  · rw [if_pos h]; simp [h]
  · rw [if_neg h]; simp; omega
theorem chain_some (a b : Int) : impl_isChain.f a b = some (decide (0 ≤ b ∧ b < a)) := by
  unfold impl_isChain.f
  by_cases h : b ≥ 0
  · rw [if_pos h]; simp [h]
  · rw [if_neg h]; simp; omega

theorem goodAt_iff {c : Int} {l : List S50} {i : Nat} (h : i < l.length) : goodAt c l i ↔ (0 ≤ l[i].f0 ∧ l[i].f0 < c) ∧ (0 ≤ l[i].f1 ∧ l[i].f1 < c) ∧ l[i].f0 ≠ l[i].f1 ∧ ∀ j, j < i → l[j]? ≠ some l[i] := by
  unfold goodAt
  rw [List.getElem?_eq_getElem h]
  exact ⟨fun g => g _ rfl, fun g x hx => by injection hx with hx; subst hx; exact g⟩

theorem S50_ext {x y : S50} : x = y ↔ x.f0 = y.f0 ∧ x.f1 = y.f1 := by
  cases x; cases y; simp

theorem spec_inner (c : Int) (l : List S50) (i : Nat) (hi : i < l.length) (hl : l.length ≤ 1048576) (Q : Prop) (hQ : EvB (fun k => spec_l03Ok.l0 k c l ((i + 1 : Nat) : Int)) Q) (d : Nat) :
    ∀ j : Nat, i = j + d → EvB (fun k => spec_l03Ok.l1 k c l (i : Int) (j : Int) l[i].f0 l[i].f1) ((∀ q, j ≤ q → q < i → l[q]? ≠ some l[i]) ∧ Q) := by
  have hw : wrap64 ((i : Int) + 1) = ((i + 1 : Nat) : Int) := by unfold wrap64; omega
  induction d with
  | zero =>
    intro j hj
    refine (EvB.step (fun k => ?_) hQ).iff ⟨fun q => ⟨fun a h1 h2 => by omega, q⟩, fun q => q.2⟩
    simp only [spec_l03Ok.l1, hw]
    rw [if_neg (by omega)]
  | succ d ih =>
    intro j hj
    have hlt : j < l.length := by omega
    have hw' : wrap64 ((j : Int) + 1) = ((j + 1 : Nat) : Int) := by unfold wrap64; omega
    by_cases e : l[j] = l[i]
    · refine EvB.step (f := fun _ => some false) (fun k => ?_) (EvB.no fun q => q.1 j (Nat.le_refl _) (by omega) (by rw [List.getElem?_eq_getElem hlt, e]))
      simp only [spec_l03Ok.l1, hw', rdCover hlt]
      rw [if_pos (by omega), if_pos (by omega), if_pos (by omega), if_pos (by simp [e])]
    · refine EvB.step (fun k => ?_) ((ih (j + 1) (by omega)).iff ⟨fun q => ⟨fun a h1 h2 => ?_, q.2⟩, fun q => ⟨fun a h1 h2 => q.1 a (by omega) h2, q.2⟩⟩)
      · simp only [spec_l03Ok.l1, hw', rdCover hlt]
        rw [if_pos (by omega), if_pos (by omega), if_pos (by omega), if_neg (by rw [S50_ext] at e; simpa using e)]
      · by_cases c : a = j
        · subst c
          rw [List.getElem?_eq_getElem hlt]
          exact fun q => e (by injection q)
        · exact q.1 a (by omega) h2

theorem spec_outer (c : Int) (hc : 0 ≤ c ∧ c ≤ 12) (l : List S50) (hf : Fits l) (hl : l.length ≤ 1048576) (d : Nat) : ∀ i : Nat, l.length = i + d → EvB (fun k => spec_l03Ok.l0 k c l (i : Int)) (∀ q, i ≤ q → goodAt c l q) := by
  have hw0 : wrap64 (c - 1) = c - 1 := by unfold wrap64; omega
  induction d with
  | zero =>
    intro i hi
    refine EvB.step (f := fun _ => some true) (fun k => ?_) (EvB.yes fun q hq x hx => by rw [List.getElem?_eq_none (by omega)] at hx; cases hx)
    simp only [spec_l03Ok.l0]
    rw [if_neg (by omega)]
  | succ d ih =>
    intro i hi
    have hlt : i < l.length := by omega
    obtain ⟨f0, f1⟩ := hf _ (List.getElem_mem hlt)
    have hw1 : wrap64 (l[i].f0) = l[i].f0 := by unfold wrap64; omega
    have hw2 : wrap64 (l[i].f1) = l[i].f1 := by unfold wrap64; omega
    have hg := goodAt_iff (c := c) hlt
    by_cases h1 : 0 ≤ l[i].f0 ∧ l[i].f0 ≤ c - 1
    · by_cases h2 : 0 ≤ l[i].f1 ∧ l[i].f1 ≤ c - 1
      · by_cases h3 : l[i].f0 = l[i].f1
        · refine EvB.step (fun k => ?_) (EvB.step (g := fun k => spec_l03Ok.j2 k c l (i : Int) true l[i].f0 l[i].f1) (fun k => by simp only [spec_l03Ok.j2, if_true]) (EvB.no fun q => (hg.1 (q i (Nat.le_refl _))).2.2.1 h3))
          simp only [spec_l03Ok.l0, rdCover hlt, hw0, hw1, hw2, in_some, Option.bind_some]
          have e3 : (l[i].f0 == l[i].f1) = true := beq_iff_eq.2 h3
          rw [if_pos (by omega), if_pos (by omega), if_pos (by simpa using h1), if_pos (by simpa using h2), e3]
        · have hin := spec_inner c l i hlt hl _ (ih (i + 1) (by omega)) i 0 (by omega)
          refine EvB.step (fun k => ?_) (EvB.step (g := fun k => spec_l03Ok.j2 k c l (i : Int) false l[i].f0 l[i].f1) (f := fun k => spec_l03Ok.l1 k c l (i : Int) 0 l[i].f0 l[i].f1) (fun k => by simp [spec_l03Ok.j2]) (hin.iff ⟨fun q a ha => ?_, fun q => ⟨fun a _ h => (hg.1 (q i (Nat.le_refl _))).2.2.2 a h, fun a ha => q a (by omega)⟩⟩))
          · simp only [spec_l03Ok.l0, rdCover hlt, hw0, hw1, hw2, in_some, Option.bind_some]
            have e3 : (l[i].f0 == l[i].f1) = false := beq_eq_false_iff_ne.2 h3
            rw [if_pos (by omega), if_pos (by omega), if_pos (by simpa using h1), if_pos (by simpa using h2), e3]
          · by_cases e : a = i
            · subst e
              exact hg.2 ⟨by omega, by omega, h3, fun b hb => q.1 b (by omega) hb⟩
            · exact q.2 a (by omega)
      · refine EvB.step (fun k => ?_) (EvB.step (g := fun k => spec_l03Ok.j2 k c l (i : Int) true l[i].f0 l[i].f1) (fun k => by simp only [spec_l03Ok.j2, if_true]) (EvB.no fun q => h2 (by have := (hg.1 (q i (Nat.le_refl _))).2.1; omega)))
        simp only [spec_l03Ok.l0, rdCover hlt, hw0, hw1, hw2, in_some, Option.bind_some]
        rw [if_pos (by omega), if_pos (by omega), if_pos (by simpa using h1), if_neg (by simpa using h2)]
    · refine EvB.step (fun k => ?_) (EvB.step (g := fun k => spec_l03Ok.j2 k c l (i : Int) true l[i].f0 l[i].f1) (fun k => by simp only [spec_l03Ok.j2, if_true]) (EvB.no fun q => h1 (by have := (hg.1 (q i (Nat.le_refl _))).1; omega)))
      simp only [spec_l03Ok.l0, rdCover hlt, hw0, hw1, in_some, Option.bind_some]
      rw [if_pos (by omega), if_pos (by omega), if_neg (by simpa using h1)]

/-- Covers are right. -/
def Covers (c : Int) (l : List S50) : Prop := (0 ≤ c ∧ c ≤ 12) ∧ l.length ≤ 60 ∧ ∀ q, goodAt c l q

theorem spec_covers (c : Int) (l : List S50) (hf : Fits l) (hl : l.length ≤ 1048576) : EvB (fun k => spec_l03Ok.f k c l) (Covers c l) := by
  by_cases hc : 0 ≤ c ∧ c ≤ 12
  · by_cases h60 : l.length ≤ 60
    · refine EvB.congr (f := fun k => spec_l03Ok.j0 k c l false) (fun k => ?_) (EvB.step (f := fun k => spec_l03Ok.l0 k c l 0) (fun k => by simp [spec_l03Ok.j0]) ((spec_outer c hc l hf hl l.length 0 (by omega)).iff ⟨fun q => ⟨hc, h60, fun a => q a (Nat.zero_le _)⟩, fun q a _ => q.2.2 a⟩))
      unfold spec_l03Ok.f
      rw [in_some]
      simp only [Option.bind_some]
      have e : decide ((l.length : Int) > 60) = false := decide_eq_false (by omega)
      rw [if_pos (by simpa using hc), e]
    · refine EvB.congr (f := fun k => spec_l03Ok.j0 k c l true) (fun k => ?_) (EvB.step (fun k => by simp only [spec_l03Ok.j0, if_true]) (EvB.no fun q => h60 q.2.1))
      unfold spec_l03Ok.f
      rw [in_some]
      simp only [Option.bind_some]
      have e : decide ((l.length : Int) > 60) = true := decide_eq_true (by omega)
      rw [if_pos (by simpa using hc), e]
  · refine EvB.congr (f := fun k => spec_l03Ok.j0 k c l true) (fun k => ?_) (EvB.step (fun k => by simp only [spec_l03Ok.j0, if_true]) (EvB.no fun q => hc q.1))
    unfold spec_l03Ok.f
    rw [in_some]
    simp only [Option.bind_some]
    rw [if_neg (by simpa using hc)]

theorem index_loop (l : List S50) (x : S50) (hl : l.length ≤ 1048576) (d : Nat) : ∀ j : Nat, l.length = j + d → ∃ r : Int, (r ≥ 0 ↔ ∃ q, j ≤ q ∧ l[q]? = some x) ∧ ∀ k, d < k → impl_Cover_52.l0 k l l.length j x.f0 x.f1 = some r := by
  induction d with
  | zero =>
    intro j hj
    refine ⟨-1, ⟨fun h => by omega, fun ⟨q, h1, h2⟩ => by rw [List.getElem?_eq_none (by omega)] at h2; cases h2⟩, fun k hk => ?_⟩
    obtain ⟨k, rfl⟩ : ∃ q, k = q + 1 := ⟨k - 1, by omega⟩
    simp only [impl_Cover_52.l0]
    rw [if_neg (by omega)]
  | succ d ih =>
    intro j hj
    have hlt : j < l.length := by omega
    have hw' : wrap64 ((j : Int) + 1) = ((j + 1 : Nat) : Int) := by unfold wrap64; omega
    by_cases e : x = l[j]
    · refine ⟨j, ⟨fun _ => ⟨j, Nat.le_refl _, by rw [List.getElem?_eq_getElem hlt, e]⟩, fun _ => by omega⟩, fun k hk => ?_⟩
      obtain ⟨k, rfl⟩ : ∃ q, k = q + 1 := ⟨k - 1, by omega⟩
      simp only [impl_Cover_52.l0, hw', rdCover hlt]
      rw [if_pos (by omega), if_pos (by omega), if_pos (by omega), if_pos (by simp [e])]
    · obtain ⟨r, h1, h2⟩ := ih (j + 1) (by omega)
      refine ⟨r, h1.trans ⟨fun ⟨q, a, b⟩ => ⟨q, by omega, b⟩, fun ⟨q, a, b⟩ => ⟨q, ?_, b⟩⟩, fun k hk => ?_⟩
      · by_cases c : q = j
        · subst c
          rw [List.getElem?_eq_getElem hlt] at b
          exact absurd (by injection b with b; exact b.symm) e
        · omega
      · obtain ⟨k, rfl⟩ : ∃ q, k = q + 1 := ⟨k - 1, by omega⟩
        simp only [impl_Cover_52.l0, hw', rdCover hlt]
        rw [if_pos (by omega), if_pos (by omega), if_pos (by omega), if_neg (by rw [S50_ext] at e; simpa using e)]
        exact h2 k (by omega)

theorem contains (l : List S50) (x : S50) (hl : l.length ≤ 1048576) : EvB (fun k => impl_Cover_42.f k l x.f0 x.f1) (∃ q : Nat, l[q]? = some x) := by
  obtain ⟨r, h1, h2⟩ := index_loop l x hl l.length 0 (by omega)
  refine ⟨decide (r ≥ 0), ⟨l.length + 1, fun k hk => ?_⟩, by rw [decide_eq_true_iff, h1]; exact ⟨fun ⟨q, _, h⟩ => ⟨q, h⟩, fun ⟨q, h⟩ => ⟨q, Nat.zero_le _, h⟩⟩⟩
  show impl_Cover_42.f k l x.f0 x.f1 = _
  unfold impl_Cover_42.f impl_Cover_52.f
  rw [show ((0 : Int)) = ((0 : Nat) : Int) from rfl, h2 k (by omega)]
  rfl

theorem impl_outer (c : Int) (l : List S50) (hf : Fits l) (hl : l.length ≤ 1048576) (d : Nat) : ∀ i : Nat, l.length = i + d → EvB (fun k => impl_ValidCovers.l0 k c l l l.length (i : Int)) (∀ q, i ≤ q → goodAt c l q) := by
  induction d with
  | zero =>
    intro i hi
    refine EvB.step (f := fun _ => some true) (fun k => ?_) (EvB.yes fun q hq x hx => by rw [List.getElem?_eq_none (by omega)] at hx; cases hx)
    simp only [impl_ValidCovers.l0]
    rw [if_neg (by omega)]
  | succ d ih =>
    intro i hi
    have hlt : i < l.length := by omega
    have hw : wrap64 ((i : Int) + 1) = ((i + 1 : Nat) : Int) := by unfold wrap64; omega
    obtain ⟨f0, f1⟩ := hf _ (List.getElem_mem hlt)
    have hw1 : wrap64 (l[i].f0) = l[i].f0 := by unfold wrap64; omega
    have hw2 : wrap64 (l[i].f1) = l[i].f1 := by unfold wrap64; omega
    have hg := goodAt_iff (c := c) hlt
    by_cases h1 : 0 ≤ l[i].f0 ∧ l[i].f0 < c
    · by_cases h2 : 0 ≤ l[i].f1 ∧ l[i].f1 < c
      · by_cases h3 : l[i].f0 = l[i].f1
        · refine EvB.step (f := fun _ => some false) (fun k => ?_) (EvB.no fun q => (hg.1 (q i (Nat.le_refl _))).2.2.1 h3)
          simp only [impl_ValidCovers.l0, rdCover hlt, hw1, hw2, chain_some, Option.bind_some]
          rw [if_pos (by omega), if_pos (by omega), if_pos (by omega), if_pos (by simpa using h1), if_pos (by simpa using h2), if_pos h3]
        · have hin : EvB (fun k => impl_Cover_42.f k (l.take i) l[i].f0 l[i].f1) (∃ q : Nat, (l.take i)[q]? = some l[i]) := contains (l.take i) l[i] (by rw [List.length_take]; omega)
          obtain ⟨b, hb, hb'⟩ := hin
          refine EvB.step (f := fun k => (impl_Cover_42.f k (l.take i) l[i].f0 l[i].f1).bind fun t => if t = true then some false else impl_ValidCovers.l0 k c l l l.length ((i + 1 : Nat) : Int)) (fun k => ?_) (EvB.bind (f := fun k t => if t = true then some false else impl_ValidCovers.l0 k c l l l.length ((i + 1 : Nat) : Int)) hb ?_)
          · simp only [impl_ValidCovers.l0, rdCover hlt, hw, hw1, hw2, chain_some, Option.bind_some, Int.toNat_natCast]
            rw [if_pos (by omega), if_pos (by omega), if_pos (by omega), if_pos (by simpa using h1), if_pos (by simpa using h2), if_neg h3, if_pos (by omega)]
          · cases b with
            | true =>
              simp only [if_true]
              obtain ⟨q, hq⟩ := hb'.1 rfl
              refine EvB.no fun g => ?_
              rw [List.getElem?_take] at hq
              split at hq
              · exact (hg.1 (g i (Nat.le_refl _))).2.2.2 q (by assumption) hq
              · cases hq
            | false =>
              simp only [Bool.false_eq_true, if_false]
              refine (ih (i + 1) (by omega)).iff ⟨fun q a ha => ?_, fun q a ha => q a (by omega)⟩
              by_cases e : a = i
              · subst e
                refine hg.2 ⟨h1, h2, h3, fun b hb hq => ?_⟩
                have := hb'.2 ⟨b, by rw [List.getElem?_take, if_pos hb]; exact hq⟩
                simp at this
              · exact q a (by omega)
      · refine EvB.step (f := fun _ => some false) (fun k => ?_) (EvB.no fun q => h2 (hg.1 (q i (Nat.le_refl _))).2.1)
        simp only [impl_ValidCovers.l0, rdCover hlt, hw1, hw2, chain_some, Option.bind_some]
        rw [if_pos (by omega), if_pos (by omega), if_pos (by omega), if_pos (by simpa using h1), if_neg (by simpa using h2)]
    · refine EvB.step (f := fun _ => some false) (fun k => ?_) (EvB.no fun q => h1 (hg.1 (q i (Nat.le_refl _))).1)
      simp only [impl_ValidCovers.l0, rdCover hlt, hw1, chain_some, Option.bind_some]
      rw [if_pos (by omega), if_pos (by omega), if_pos (by omega), if_neg (by simpa using h1)]

theorem impl_covers (c : Int) (l : List S50) (hf : Fits l) (hl : l.length ≤ 1048576) : EvB (fun k => impl_ValidCovers.f k c l) (Covers c l) := by
  by_cases hc : 0 ≤ c ∧ c ≤ 12
  · by_cases h60 : l.length ≤ 60
    · refine EvB.congr (f := fun k => impl_ValidCovers.j0 k c l false) (fun k => ?_) (EvB.step (f := fun k => impl_ValidCovers.l0 k c l l l.length 0) (fun k => by simp [impl_ValidCovers.j0]) ((impl_outer c l hf hl l.length 0 (by omega)).iff ⟨fun q => ⟨hc, h60, fun a => q a (Nat.zero_le _)⟩, fun q a _ => q.2.2 a⟩))
      unfold impl_ValidCovers.f
      have e : decide ((l.length : Int) > 60) = false := decide_eq_false (by omega)
      rw [if_neg (by omega), if_neg (by omega), e]
    · refine EvB.congr (f := fun k => impl_ValidCovers.j0 k c l true) (fun k => ?_) (EvB.step (fun k => by simp only [impl_ValidCovers.j0, if_true]) (EvB.no fun q => h60 q.2.1))
      unfold impl_ValidCovers.f
      have e : decide ((l.length : Int) > 60) = true := decide_eq_true (by omega)
      rw [if_neg (by omega), if_neg (by omega), e]
  · refine EvB.congr (f := fun k => impl_ValidCovers.j0 k c l true) (fun k => ?_) (EvB.step (fun k => by simp only [impl_ValidCovers.j0, if_true]) (EvB.no fun q => hc q.1))
    unfold impl_ValidCovers.f
    by_cases h0 : c < 0
    · rw [if_pos h0]
    · rw [if_neg h0, if_pos (by omega)]

theorem fits_conv (l : List S52) (h : ∀ x ∈ l, (Lit.int .i8 x.f0).wf = true ∧ (Lit.int .i8 x.f1).wf = true) : Fits (l.map convCover) := by
  intro x hx
  obtain ⟨y, hy, rfl⟩ := List.mem_map.1 hx
  exact ⟨i8_of (h y hy).1, i8_of (h y hy).2⟩


def keeps (c : Int) (x : S50) : Bool := !(x.f0 == c) && !(x.f1 == c)

theorem filter_drop {α : Type} (p : α → Bool) {l : List α} {i : Nat} (h : i < l.length) : (l.drop i).filter p = if p l[i] = true then l[i] :: (l.drop (i + 1)).filter p else (l.drop (i + 1)).filter p := by
  rw [List.drop_eq_getElem_cons h, List.filter_cons]

theorem spec_keep (c : Int) (l : List S50) (hf : Fits l) (hl : l.length ≤ 1048576) (d : Nat) : ∀ (i : Nat) (acc : List S50), l.length = i + d → acc.length ≤ i → ∀ k, d < k → spec_WithoutChain.l0 k l c acc (i : Int) = some (acc ++ (l.drop i).filter (keeps c), 0) := by
  induction d with
  | zero =>
    intro i acc hi ha k hk
    obtain ⟨k, rfl⟩ : ∃ q, k = q + 1 := ⟨k - 1, by omega⟩
    simp only [spec_WithoutChain.l0]
    rw [if_neg (by omega), List.drop_of_length_le (by omega)]
    simp
  | succ d ih =>
    intro i acc hi ha k hk
    obtain ⟨k, rfl⟩ : ∃ q, k = q + 1 := ⟨k - 1, by omega⟩
    have hlt : i < l.length := by omega
    obtain ⟨f0, f1⟩ := hf _ (List.getElem_mem hlt)
    have hw1 : wrap64 (l[i].f0) = l[i].f0 := by unfold wrap64; omega
    have hw2 : wrap64 (l[i].f1) = l[i].f1 := by unfold wrap64; omega
    have hw : wrap64 ((i : Int) + 1) = ((i + 1 : Nat) : Int) := by unfold wrap64; omega
    simp only [spec_WithoutChain.l0, rdCover hlt, hw, hw1, hw2]
    rw [if_pos (by omega), if_pos (by omega), filter_drop _ hlt]
    by_cases h0 : l[i].f0 = c
    · rw [if_pos h0, ih (i + 1) acc (by omega) (by omega) k (by omega)]
      simp [keeps, h0]
    · by_cases h1 : l[i].f1 = c
      · rw [if_neg h0, if_pos h1, ih (i + 1) acc (by omega) (by omega) k (by omega)]
        simp [keeps, h1]
      · rw [if_neg h0, if_neg h1, if_pos (by omega), ih (i + 1) _ (by omega) (by rw [List.length_append]; simp; omega) k (by omega)]
        simp [keeps, h0, h1]

theorem impl_keep (c : Int) (l : List S50) (hf : Fits l) (hl : l.length ≤ 1048576) (d : Nat) : ∀ (i : Nat) (acc : List S50), l.length = i + d → acc.length ≤ i → ∀ k, d < k → impl_WithoutChain.l0 k c acc l l.length (i : Int) = some (acc ++ (l.drop i).filter (keeps c), 0) := by
  induction d with
  | zero =>
    intro i acc hi ha k hk
    obtain ⟨k, rfl⟩ : ∃ q, k = q + 1 := ⟨k - 1, by omega⟩
    simp only [impl_WithoutChain.l0]
    rw [if_neg (by omega), List.drop_of_length_le (by omega)]
    simp
  | succ d ih =>
    intro i acc hi ha k hk
    obtain ⟨k, rfl⟩ : ∃ q, k = q + 1 := ⟨k - 1, by omega⟩
    have hlt : i < l.length := by omega
    obtain ⟨f0, f1⟩ := hf _ (List.getElem_mem hlt)
    have hw1 : wrap64 (l[i].f0) = l[i].f0 := by unfold wrap64; omega
    have hw2 : wrap64 (l[i].f1) = l[i].f1 := by unfold wrap64; omega
    have hw : wrap64 ((i : Int) + 1) = ((i + 1 : Nat) : Int) := by unfold wrap64; omega
    simp only [impl_WithoutChain.l0, rdCover hlt, hw, hw1, hw2]
    rw [if_pos (by omega), if_pos (by omega), if_pos (by omega), filter_drop _ hlt]
    by_cases h0 : l[i].f0 = c
    · rw [if_pos h0, ih (i + 1) acc (by omega) (by omega) k (by omega)]
      simp [keeps, h0]
    · by_cases h1 : l[i].f1 = c
      · rw [if_neg h0, if_pos h1, ih (i + 1) acc (by omega) (by omega) k (by omega)]
        simp [keeps, h1]
      · rw [if_neg h0, if_neg h1, if_pos (by omega), ih (i + 1) _ (by omega) (by rw [List.length_append]; simp; omega) k (by omega)]
        simp [keeps, h0, h1]

theorem impl_code (a c : Int) (l : List S50) (b : Bool) (hb : Ev (fun k => impl_ValidCovers.f k a l) b) : Ev (fun k => impl_chainCode.f k a l [c]) (if b then (if 0 ≤ c ∧ c < a then 0 else 2) else 1) := by
  refine Ev.congr (fun k => by unfold impl_chainCode.f; rfl) (Ev.bind hb ?_)
  cases b with
  | false => exact Ev.now _
  | true =>
    simp only [if_true]
    refine ⟨2, fun k hk => ?_⟩
    obtain ⟨k, rfl⟩ : ∃ q, k = q + 1 + 1 := ⟨k - 2, by omega⟩
    have hr : rd [c] 0 = c := rfl
    have hw : wrap64 (0 + 1) = 1 := by unfold wrap64; omega
    simp only [impl_chainCode.l0, hr, chain_some, Option.bind_some, hw, List.length_cons, List.length_nil]
    by_cases h : 0 ≤ c ∧ c < a
    · simp [h]
    · simp [h]

theorem spec_code (a c : Int) (ha : -9223372036854775808 ≤ a ∧ a ≤ 9223372036854775807) (l : List S50) (b : Bool) (hb : Ev (fun k => spec_l03Ok.f k a l) b) (hb' : b = true ↔ Covers a l) :
    Ev (fun k => (spec_l00In.f c 0 (wrap64 (a - 1))).bind fun t => spec_l03Asked.f k a l t) (if b then (if 0 ≤ c ∧ c < a then 0 else 2) else 1) := by
  refine Ev.congr (f := fun k => (spec_l03Ok.f k a l).bind fun t122 => (if t122 = true then (if decide (0 ≤ c ∧ c ≤ wrap64 (a - 1)) = true then (some 0) else (some 2)) else (some 1))) (fun k => by rw [in_some]; simp only [Option.bind_some]; unfold spec_l03Asked.f; rfl) (Ev.bind hb ?_)
  cases b with
  | false => exact Ev.now _
  | true =>
    have hc := hb'.1 rfl
    have hw : wrap64 (a - 1) = a - 1 := by have := hc.1; unfold wrap64; omega
    simp only [if_true, hw]
    by_cases h : 0 ≤ c ∧ c < a
    · rw [if_pos (decide_eq_true (by omega)), if_pos h]
      exact Ev.now _
    · rw [if_neg (by rw [decide_eq_true_iff]; omega), if_neg h]
      exact Ev.now _

/-- Both come to the same. -/
theorem both (a c : Int) (ha : -9223372036854775808 ≤ a ∧ a ≤ 9223372036854775807) (l : List S50) (hf : Fits l) (hl : l.length ≤ 1048576) : ∃ (r : List S50) (q : Int), r.length ≤ 1048576 ∧ Ev (fun k => spec_WithoutChain.f k a l c) (r, q) ∧ Ev (fun k => impl_WithoutChain.f k a l c) (r, q) := by
  obtain ⟨b, h1, h2, h3⟩ := EvB.same (spec_covers a l hf hl) (impl_covers a l hf hl)
  have s := spec_code a c ha l b h1 h3
  have i := impl_code a c l b h2
  generalize hq : (if b then (if 0 ≤ c ∧ c < a then 0 else 2) else 1 : Int) = q at s i
  by_cases h0 : q = 0
  · refine ⟨l.filter (keeps c), 0, Nat.le_trans (List.length_filter_le _ _) hl, ?_, ?_⟩
    · refine Ev.congr (f := fun k => ((spec_l00In.f c 0 (wrap64 (a - 1))).bind fun t => spec_l03Asked.f k a l t).bind fun t127 => (if t127 = 0 then (spec_WithoutChain.l0 k l c [] 0) else (some ([], t127)))) (fun k => ?_) (Ev.bind s ?_)
      · unfold spec_WithoutChain.f
        rw [in_some]
        rfl
      · simp only [if_pos h0]
        refine ⟨l.length + 1, fun k hk => ?_⟩
        have := spec_keep c l hf hl l.length 0 [] (by omega) (by simp) k (by omega)
        simpa using this
    · refine Ev.congr (fun k => by unfold impl_WithoutChain.f; rfl) (Ev.bind i ?_)
      simp only [if_pos h0]
      refine ⟨l.length + 1, fun k hk => ?_⟩
      have := impl_keep c l hf hl l.length 0 [] (by omega) (by simp) k (by omega)
      simpa using this
  · refine ⟨[], q, by simp, ?_, ?_⟩
    · refine Ev.congr (f := fun k => ((spec_l00In.f c 0 (wrap64 (a - 1))).bind fun t => spec_l03Asked.f k a l t).bind fun t127 => (if t127 = 0 then (spec_WithoutChain.l0 k l c [] 0) else (some ([], t127)))) (fun k => ?_) (Ev.bind s ?_)
      · unfold spec_WithoutChain.f
        rw [in_some]
        rfl
      · simp only [if_neg h0]
        exact Ev.now _
    · refine Ev.congr (fun k => by unfold impl_WithoutChain.f; rfl) (Ev.bind i ?_)
      simp only [if_neg h0]
      exact Ev.now _

end W
open W
def FnExactWithoutChainPure : Prop := ∀ (a0 : Int) (l1 : List S52) (a2 : Int), (Lit.int .i64 a0).wf = true → l1.length ≤ 9223372036854775807 → (∀ x ∈ l1, (Lit.int .i8 x.f0).wf = true ∧ (Lit.int .i8 x.f1).wf = true) → (Lit.int .i64 a2).wf = true → ∃ k, laws_FnExactWithoutChain.f k a0 l1 a2 = some true


theorem FnExactWithoutChain : FnExactWithoutChainPure := by
  intro a l c ha hl hw _
  refine Ev.rounds ?_
  have hb : -9223372036854775808 ≤ a ∧ a ≤ 9223372036854775807 := by
    simp [Lit.wf, IntKind.min, IntKind.max, IntKind.signed, IntKind.bits] at ha
    omega
  have hsz := szCover l hl 1048576 (by omega) (by omega)
  by_cases hlen : (1048576 : Int) < l.length
  · refine Ev.congr (f := fun _ => some true) (fun k => ?_) (Ev.now _)
    unfold laws_FnExactWithoutChain.f
    rw [hsz, if_pos hlen]
    rfl
  · have hl2 : l.length ≤ 1048576 := by omega
    have ht := toCover l hl2
    obtain ⟨r, q, hr, hs, hi⟩ := both a c hb (l.map convCover) (fits_conv l hw) (by rw [List.length_map]; exact hl2)
    obtain ⟨m1, x1, e1, p1, _⟩ := markCover (l.map convCover) (by rw [List.length_map]; exact hl2)
    obtain ⟨m2, x2, e2, _, o2⟩ := markCover r hr
    have er := eqCover r (by omega)
    have el := eqCover (l.map convCover) (by rw [List.length_map]; omega)
    have hqq : (q != q) = false := by simp
    simp only [laws_FnExactWithoutChain.f, hsz, if_neg hlen, Option.bind_some, if_neg (show ¬ ((1048576 : Int) - l.length < 0) from by omega)]
    refine Ev.bind ht (Ev.bind hs (Ev.bind ht (Ev.bind hi (Ev.bind er ?_))))
    simp only [if_true, hqq]
    refine Ev.step (fun k => by simp only [laws_FnExactWithoutChain.j0, Bool.false_eq_true, if_false]; rfl) (Ev.bind ht (Ev.bind el ?_))
    simp only [if_true]
    refine Ev.bind e1 ?_
    simp only [if_neg (show ¬ m1 < 0 from by omega)]
    refine Ev.bind er ?_
    simp only [if_true, hqq]
    refine Ev.step (fun k => by simp only [laws_FnExactWithoutChain.j1, Bool.false_eq_true, if_false]; rfl) (Ev.bind e2 (Ev.bind o2 ?_))
    simp only [if_neg (show ¬ m2 < 0 from by omega), if_true]
    refine Ev.bind ht (Ev.bind hi (Ev.bind er ?_))
    simp only [if_true, hqq]
    refine Ev.step (fun k => by simp only [laws_FnExactWithoutChain.j2, Bool.false_eq_true, if_false]; rfl) (Ev.bind o2 ?_)
    simp only [if_neg (show ¬ m2 < 0 from by omega), if_true]
    exact Ev.now _

end Go.Proofs.Ytapbfobhnbcpdaa.Pure
