import Derived.Test.YteffdjfiialdfaaDoorProg
import Derived.Laws.EntriesVeiled
import Derived.Lib.SliceRun
import Derived.Below
import Derived.Deep.Draws
import Derived.Deep.AppendLies
import Derived.Maps.AppendAt
import Derived.OwnWalk
import Derived.Laws.BytesArg
import Derived.Laws.MakeOwn
import Derived.Laws.OwnMore
import Derived.Deep.OwnRows
import Derived.Tactics
import Derived.Lib.ConvBytes
import Derived.Laws.Slices
import Derived.WalkKit
import Derived.KernelRfl
import Derived.RowKit3
import Derived.Deep.LoopGhost
import Derived.Deep.QuietTactic
import Derived.BigQuiet
import Derived.WideLaws
import Derived.Deep.DeepCutAuto
import Derived.Deep.CutBlock
import Derived.Deep.RegionHeld3
import Derived.Laws.Rows
import Derived.Lib.AppendStr
import Derived.ArgAppend
import Derived.Laws.IdiomCopy
import Derived.OrdersHeld
import Derived.Laws.BitsLemmas
import Derived.RowKit
import Derived.Test.YteffdjfiialdfaaDoorShelf
import Derived.Test.YteffdjfiialdfaaDoorWWords
import Derived.Test.YteffdjfiialdfaaDoorWLast
import Derived.Test.YteffdjfiialdfaaDoorWMore
namespace Go.Proofs.YteffdjfiialdfaaDoor.Lines
open Go Go.RowKit Go.Proofs.YteffdjfiialdfaaDoorW.PrintWords Go.Proofs.YteffdjfiialdfaaDoorW.PrintLast
set_option linter.unusedVariables false
set_option maxHeartbeats 8000000 in
set_option maxRecDepth 100000 in
theorem lines_none (a0 : ByteArray) (w : World) (c2 : a0.toList = []) : Calls Tryd.prog 37 #[.string a0] w fun e w' => e = .returned (.tuple #[.slice none 0 0, .bool true]) ∧ Below w.heap.size w w' := by
  have c2b0 : (a0.toList == ([] : List UInt8)) = true := beq_iff_eq.mpr c2
  have c2b1 : (a0.toList != ([] : List UInt8)) = false := bne_eq_false_iff_eq.mpr c2
  have HB := Aside0.mk (Below.refl w.heap.size w)
  clear c2
  go_enter Tryd.func37, Tryd.ntmps37
  go_wp2
  go_ret2
  exact ⟨rfl, by repeat (first | (with_reducible first | exact HB.out | apply below_alloc | apply pw_below_drewN | apply below_drew1) | exact HB.out)⟩
set_option maxHeartbeats 8000000 in
set_option maxRecDepth 100000 in
theorem lines_some (a0 : ByteArray) (w : World) (c2 : ¬ a0.toList = []) (n : Nat) (z : ByteArray) (cs : Array Value)
    (hc : Calls Tryd.prog 38 #[.string a0, .string (⟨#[10]⟩ : ByteArray)] w fun e w' => e = .returned (.slice (some ⟨w.heap.size, 0, none⟩) (n + 1) (n + 1)) ∧ w' = w.alloc (.cells cs 9))
    (hw : wrap64 (n : Int) = (n : Int)) (h0 : (0 : Int) ≤ (n : Int)) (h1 : (n : Int) ≤ (n : Int) + 1) (h2 : (n : Int) < (n : Int) + 1) (hz : cs[n]? = some (.string z)) :
    Calls Tryd.prog 37 #[.string a0] w fun e w' => e = .returned (.tuple #[.slice (some ⟨w.heap.size, 0, none⟩) n (n + 1), .bool (z.toList == [])]) ∧ ∃ k, w' = (w.alloc (.cells cs 9)).drewN k := by
  have c2b0 : (a0.toList == ([] : List UInt8)) = false := beq_eq_false_iff_ne.mpr c2
  have c2b1 : (a0.toList != ([] : List UInt8)) = true := bne_iff_ne.mpr c2
  have hcell : (w.alloc (.cells cs 9)).cell? ⟨w.heap.size, n, none⟩ = some (.string z) := by rw [World.cell?_alloc_mark]; exact hz
  have d0 : decide ((0 : Int) ≤ (n : Int)) = true := decide_eq_true h0
  have d1 : decide ((n : Int) ≤ (n : Int) + 1) = true := decide_eq_true h1
  have d2 : decide ((n : Int) < (n : Int) + 1) = true := decide_eq_true h2
  clear c2 hz
  go_enter Tryd.func37, Tryd.ntmps37
  go_wp2_with (go_at_call 38; refine hc.mono ?_; rintro e w' ⟨rfl, rfl⟩)
  clear hc
  simp only [hw]
  generalize hW : w.alloc (.cells cs 9) = W at hcell ⊢
  go_quiet (fail)
  go_wp2
  go_ret2
  subst hW
  have ez : (z.toList == ([] : List UInt8)) = z.toList.isEmpty := by cases z.toList <;> rfl
  refine ⟨?_, _, rfl⟩
  rw [ez]
  rfl
theorem lines_calls (a0 : ByteArray) (r1 : List ByteArray) (r2 : Bool) (w : World) (h : (if a0.toList = ([] : List UInt8) then some (([] : List ByteArray), true) else if a0.size < 4294967281 then some ((Go.Lib.splitB (⟨#[10]⟩ : ByteArray) 0 (Go.Lib.countB a0 (⟨#[10]⟩ : ByteArray)) a0).take (Go.Lib.countB a0 (⟨#[10]⟩ : ByteArray)), ((rdOf ByteArray.empty (Go.Lib.splitB (⟨#[10]⟩ : ByteArray) 0 (Go.Lib.countB a0 (⟨#[10]⟩ : ByteArray)) a0) (Go.Lib.countB a0 (⟨#[10]⟩ : ByteArray) : Int)).toList == ([] : List UInt8))) else none) = some (r1, r2)) (htbb : Go.Proofs.YteffdjfiialdfaaDoor.Shelf.TBb w) :
    Calls Tryd.prog 37 #[.string a0] w fun e w' => ∃ v0_ : Value, e = .returned (.tuple #[v0_, .bool r2]) ∧ Kd.R Kd.string 9 w' w.heap.size (fun _ => True) v0_ r1 ∧ Below w.heap.size w w' := by
  by_cases c : a0.toList = ([] : List UInt8)
  · rw [if_pos c] at h
    obtain ⟨rfl, rfl⟩ : _ ∧ _ := by simpa only [Option.some.injEq, Prod.mk.injEq] using h
    exact (lines_none a0 w c).mono fun e w' ⟨he, hb⟩ => ⟨_, he, Kd.R_nil _ _ _ _ _, hb⟩
  · rw [if_neg c] at h
    by_cases hs : a0.size < 4294967281
    · rw [if_pos hs] at h
      obtain ⟨rfl, rfl⟩ : _ ∧ _ := by simpa only [Option.some.injEq, Prod.mk.injEq] using h
      obtain ⟨m, hm⟩ := htbb
      have h1 : 1 ≤ (⟨#[10]⟩ : ByteArray).size := Nat.le_refl _
      have hc := Tryd.strings_Split a0 (⟨#[10]⟩ : ByteArray) m w hs hm h1
      have hlen : (Go.Lib.splitB (⟨#[10]⟩ : ByteArray) 0 (Go.Lib.countB a0 (⟨#[10]⟩ : ByteArray)) a0).length = Go.Lib.countB a0 (⟨#[10]⟩ : ByteArray) + 1 := Lib.splitB_all _ h1 0 _ a0 rfl
      have hcnt := Lib.countB_le (⟨#[10]⟩ : ByteArray) h1 _ a0 (Nat.le_refl _)
      generalize Go.Lib.countB a0 (⟨#[10]⟩ : ByteArray) = n at hc hlen hcnt ⊢
      generalize Go.Lib.splitB (⟨#[10]⟩ : ByteArray) 0 n a0 = t at hc hlen ⊢
      have hlt : n < t.length := by omega
      have hz : (t.map Value.string).toArray[n]? = some (.string t[n]) := by simp [hlt]
      have hrd : rdOf ByteArray.empty t (n : Int) = t[n] := by
        unfold rdOf
        rw [Int.toNat_natCast, List.getD_eq_getElem?_getD, List.getElem?_eq_getElem hlt]
        rfl
      rw [hrd]
      have hrep : Reps (Kd.string.M (w.alloc (.cells (t.map Value.string).toArray 9)) w.heap.size (fun k => True ∧ some k ≠ Value.ownBlock (.slice (some ⟨w.heap.size, 0, none⟩) (n + 1) (n + 1)))) Kd.string.sz t (t.map Value.string) := by
        refine ⟨by rw [List.length_map]; exact (Nat.mul_one _).symm, fun j p hj => ?_⟩
        have h1 : (t.map Value.string)[j]? = some (Value.string p) := by rw [List.getElem?_map, hj]; rfl
        obtain ⟨hlt, hv⟩ := List.getElem?_eq_some_iff.1 h1
        show List.take 1 (List.drop (j * 1) _) = [Value.string p]
        rw [Nat.mul_one, List.drop_eq_getElem_cons hlt, hv]
        rfl
      have hlit := OwnRow.lit (e := 9) w w.heap.size hrep (Nat.le_refl _) (by omega)
      rw [hlen] at hlit
      have hR : Kd.R Kd.string 9 (w.alloc (.cells (t.map Value.string).toArray 9)) w.heap.size (fun _ => True) (.slice (some ⟨w.heap.size, 0, none⟩) (n + 1) (n + 1)) t := ⟨fun _ _ => trivial, hlit⟩
      refine (lines_some a0 w c n t[n] (t.map Value.string).toArray hc (by unfold wrap64; omega) (by omega) (by omega) (by omega) hz).mono fun e w' ⟨he, k, hw'⟩ => ?_
      subst hw'
      exact ⟨_, he, Kd.R_take (Kd.R_drewN hR k) (by omega), pw_below_drewN (below_alloc (Below.refl _ _) _) _⟩
    · rw [if_neg hs] at h
      cases h
end Go.Proofs.YteffdjfiialdfaaDoor.Lines
