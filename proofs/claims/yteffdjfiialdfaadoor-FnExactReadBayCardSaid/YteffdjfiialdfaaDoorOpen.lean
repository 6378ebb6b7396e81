/- How an argument's reading is laid open: whole numbers, structs, arrays, and slices of what can be laid open. -/
import Derived.ProofKit
import Derived.OpenShut
import Derived.Deep.Slices
import Derived.Test.YteffdjfiialdfaaDoorWWords
namespace Go.Proofs.YteffdjfiialdfaaDoor.Open
open Go.ChangeShapes Go.WideShapes Go.Deep Go.RowKit Go.Proofs.YteffdjfiialdfaaDoorW.PrintWords

/-- Whatever reads as a value of type t has cells as told. -/
def Opens (P : Program) (t : TypeId) (R : List Value → Prop) : Prop :=
  ∀ (H : Type) (enc : TypeId × Value → H) (w : World) (base : Nat) (spare : Nat → Bool) (held : Bool) (fuel : Nat) (cs : List Value) (x : DataW H × List MemPlace), DataW.trod enc P w base spare held fuel t cs = some x → R cs

theorem Opens.mono {P : Program} {t : TypeId} {R R' : List Value → Prop} (h : Opens P t R) (hr : ∀ cs, R cs → R' cs) : Opens P t R' :=
  fun H enc w base spare held fuel cs x hx => hr cs (h H enc w base spare held fuel cs x hx)

theorem opens_int {P : Program} {t : TypeId} {k : IntKind} (hu : P.underlying t = some (.int k)) : Opens P t (fun cs => ∃ n, cs = [.int k n] ∧ (Lit.int k n).wf = true) := by
  intro H enc w base spare held fuel cs x hx
  obtain ⟨n, h1, _, h2⟩ := DataW.trod_int hu hx
  exact ⟨n, h1, h2⟩

theorem opens_struct {P : Program} {t : TypeId} {fs : Array Field} {R : Nat → List Value → Prop} (hu : P.underlying t = some (.struct fs)) (hf : ∀ (i : Nat) (f : Field), fs[i]? = some f → Opens P f.type (R i)) :
    Opens P t (fun cs => cs.length = P.cellsOf t ∧ ∀ (i : Nat) (f : Field), fs[i]? = some f → R i ((cs.drop f.offset).take (P.cellsOf f.type))) := by
  intro H enc w base spare held fuel cs x hx
  obtain ⟨xs, n, _, _, hl, hxl, hg⟩ := DataW.trod_struct hu hx
  refine ⟨hl, fun i f hi => ?_⟩
  have hlt : i < xs.length := by rw [hxl]; exact (Array.getElem?_eq_some_iff.1 hi).1
  have hd := hg i f hi
  rw [List.getElem?_eq_getElem hlt] at hd
  exact hf i f hi H enc w base spare held n _ _ hd

theorem opens_array {P : Program} {t e : TypeId} {n : Nat} {R : List Value → Prop} (hu : P.underlying t = some (.array n e)) (h : Opens P e R) :
    Opens P t (fun cs => cs.length = P.cellsOf t ∧ ∀ (i : Nat), i < n → R ((cs.drop (i * P.cellsOf e)).take (P.cellsOf e))) := by
  intro H enc w base spare held fuel cs x hx
  obtain ⟨xs, m, _, _, hl, hxl, hg⟩ := DataW.trod_array hu hx
  refine ⟨hl, fun i hi => ?_⟩
  have hd := hg i hi
  rw [List.getElem?_eq_getElem (by omega)] at hd
  exact h H enc w base spare held m _ _ hd

/-- A slice that came in: a list of what its elements are. -/
theorem slice_opens {P : Program} {t e : TypeId} {α : Type} {d : Kd α} {G : α → Prop} {R : List Value → Prop} (hu : P.underlying t = some (.slice e)) (ho : Opens P e R) (hsz : P.cellsOf e = d.sz)
    (hR : ∀ cs, R cs → ∃ x : α, G x ∧ ∀ w, d.K w x cs)
    {H : Type} {enc : TypeId × Value → H} {W : World} {base : Nat} {held : Bool} {v : Value} {D : DataW H} {p : List MemPlace} {r : Reach} {b0 : Nat}
    (hv : Value.okWide P W r b0 t v) (h : DataW.Trod enc P W base (fun _ => true) held t v D p) :
    ∃ (A : Option Addr) (c : Nat) (l : List α), v = .slice A l.length c ∧ Kd.C d W A l.length l ∧ l.length ≤ c ∧ ∀ x ∈ l, G x := by
  obtain ⟨a, len, cap, rfl⟩ := okWide_slice hu hv
  obtain ⟨fuel, hf⟩ := h
  rcases open_slice hu hf with ⟨hcs, _⟩ | ⟨x, len', cap', m, n, D', Pl, hcs, _, hl, hm, hmm, _, hi⟩
  · simp [Value.cells] at hcs
    obtain ⟨rfl, rfl, rfl⟩ := hcs
    exact ⟨none, 0, [], rfl, Kd.C_nil d W, Nat.le_refl _, fun x hx => by simp at hx⟩
  · simp [Value.cells] at hcs
    obtain ⟨rfl, rfl, rfl⟩ := hcs
    simp only [if_true] at hmm
    subst hmm
    have hch : ∀ n', n' ≤ len → ∃ l : List α, l.length = n' ∧ (∀ y ∈ l, G y) ∧ ∀ (j : Nat) (y : α), l[j]? = some y → ∃ c : List Value, c.length = d.sz ∧ d.K W y c ∧ ∀ (i : Nat) (u : Value), c[i]? = some u → W.cell? (x.add (j * d.sz + i)) = some u := by
      intro n'
      induction n' with
      | zero => exact fun _ => ⟨[], rfl, fun y hy => by simp at hy, fun j y hy => by simp at hy⟩
      | succ n' ih =>
        intro hn
        obtain ⟨l, hl1, hl2, hl3⟩ := ih (by omega)
        obtain ⟨cs, hc, ht⟩ := hi n' (by omega)
        obtain ⟨y, hy, hk⟩ := hR cs (ho H enc W base _ held n cs _ ht)
        obtain ⟨_, hcl, hat⟩ := World.cells?_some hc
        refine ⟨l ++ [y], by simp [hl1], fun z hz => ?_, fun j z hz => ?_⟩
        · rw [List.mem_append, List.mem_singleton] at hz
          rcases hz with hz | rfl
          · exact hl2 z hz
          · exact hy
        · by_cases hlt : j < l.length
          · rw [List.getElem?_append_left hlt] at hz
            exact hl3 j z hz
          · rw [List.getElem?_append_right (by omega)] at hz
            obtain rfl : j = n' := by
              by_cases e : j - l.length = 0
              · omega
              · rw [List.getElem?_eq_none (by simp; omega)] at hz
                cases hz
            rw [hl1, Nat.sub_self] at hz
            injection hz with hz
            subst hz
            refine ⟨cs, by omega, hk W, fun i u hu => ?_⟩
            have hil := (List.getElem?_eq_some_iff.1 hu).1
            rw [← Go.Deep.add_add, ← hsz, hat i (by omega), hu]
    obtain ⟨l, hl1, hl2, hl3⟩ := hch len (Nat.le_refl _)
    subst hl1
    exact ⟨some x, _, l, rfl, ⟨rfl, Nat.le_trans hl hm, fun _ => ⟨x, rfl, hl3⟩⟩, hl, hl2⟩

/-- A struct that came in by value. -/
theorem agg_opens {P : Program} {t : TypeId} {fs : Array Field} {R : List Value → Prop} (hu : P.underlying t = some (.struct fs)) (ho : Opens P t R)
    {H : Type} {enc : TypeId × Value → H} {W : World} {base : Nat} {spare : Nat → Bool} {held : Bool} {v : Value} {D : DataW H} {p : List MemPlace} {r : Reach} {b0 : Nat}
    (hv : Value.okWide P W r b0 t v) (h : DataW.Trod enc P W base spare held t v D p) : ∃ cs : Array Value, v = .agg cs ∧ cs.size = P.cellsOf t ∧ R cs.toList := by
  obtain ⟨cs, rfl, hz⟩ := okWide_struct hu hv
  obtain ⟨fuel, hf⟩ := h
  exact ⟨cs, rfl, hz, ho H enc W base spare held fuel _ _ (by simpa [Value.cells] using hf)⟩
end Go.Proofs.YteffdjfiialdfaaDoor.Open
