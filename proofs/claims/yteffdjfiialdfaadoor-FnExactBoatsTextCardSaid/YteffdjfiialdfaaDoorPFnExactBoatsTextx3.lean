-- Written by a program out of this seat's translation (functions, and that the code comes to them).
import Derived.Test.YteffdjfiialdfaaDoorPFnExactBoatsTextx0
import Derived.Test.YteffdjfiialdfaaDoorPFnExactBoatsTextx1
import Derived.Test.YteffdjfiialdfaaDoorPFnExactBoatsTextx2
namespace Go.Proofs.YteffdjfiialdfaaDoor.PFnExactBoatsText
open Go.RowKit Go.Proofs.YteffdjfiialdfaaDoorW.PrintWords Go.Proofs.YteffdjfiialdfaaDoorW.PrintLast Go.Proofs.YteffdjfiialdfaaDoorW.PrintMore
attribute [local go_sem] max2_int min2_int max_two min_two max_three min_three max_four min_four   -- for this text's walks alone
open Go.Proofs.YteffdjfiialdfaaDoor.Bay
attribute [local go_sem ↓] lv26_eq lv28_eq
attribute [local go_sem] lvv_set lvv_drewN lvv_drew lv26_run BayAt26_set BayAt26_drewN BayAt26_drew lv28_run BayAt28_set BayAt28_drewN BayAt28_drew
set_option linter.unusedVariables false
set_option linter.unusedSimpArgs false

/-! ### spec_l01Boats: function 29 -/
def spec_l01Boats.l0 : Nat → List (S59) → ByteArray → Int → Option (ByteArray)
  | 0, _, _, _ => none
  | k + 1, x0, x3, x4 => if x4 < (x0.length : Int) then (if 0 ≤ x4 then ((spec_Decimal.f k (wrap64 ((rd_T59 x0 x4).f0.f0))).bind fun t143 => (if t143.size + 1 ≤ 9223372036854775807 then ((spec_Decimal.f k (wrap64 ((rd_T59 x0 x4).f0.f1))).bind fun t144 => (if (t143 ++ (⟨#[44]⟩ : ByteArray)).size + t144.size ≤ 9223372036854775807 then (if ((t143 ++ (⟨#[44]⟩ : ByteArray)) ++ t144).size + 1 ≤ 9223372036854775807 then ((spec_Decimal.f k (wrap64 ((rd_T59 x0 x4).f1))).bind fun t145 => (if (((t143 ++ (⟨#[44]⟩ : ByteArray)) ++ t144) ++ (⟨#[32]⟩ : ByteArray)).size + t145.size ≤ 9223372036854775807 then (if ((((t143 ++ (⟨#[44]⟩ : ByteArray)) ++ t144) ++ (⟨#[32]⟩ : ByteArray)) ++ t145).size + 1 ≤ 9223372036854775807 then ((spec_Decimal.f k (wrap64 ((rd_T59 x0 x4).f2))).bind fun t146 => (if (((((t143 ++ (⟨#[44]⟩ : ByteArray)) ++ t144) ++ (⟨#[32]⟩ : ByteArray)) ++ t145) ++ (⟨#[32]⟩ : ByteArray)).size + t146.size ≤ 9223372036854775807 then (if ((((((t143 ++ (⟨#[44]⟩ : ByteArray)) ++ t144) ++ (⟨#[32]⟩ : ByteArray)) ++ t145) ++ (⟨#[32]⟩ : ByteArray)) ++ t146).size + 1 ≤ 9223372036854775807 then ((spec_Decimal.f k (wrap64 ((rd_T59 x0 x4).f3))).bind fun t147 => (if (((((((t143 ++ (⟨#[44]⟩ : ByteArray)) ++ t144) ++ (⟨#[32]⟩ : ByteArray)) ++ t145) ++ (⟨#[32]⟩ : ByteArray)) ++ t146) ++ (⟨#[32]⟩ : ByteArray)).size + t147.size ≤ 9223372036854775807 then (if ((((((((t143 ++ (⟨#[44]⟩ : ByteArray)) ++ t144) ++ (⟨#[32]⟩ : ByteArray)) ++ t145) ++ (⟨#[32]⟩ : ByteArray)) ++ t146) ++ (⟨#[32]⟩ : ByteArray)) ++ t147).size + 1 ≤ 9223372036854775807 then ((spec_Decimal.f k (wrap64 ((rd_T59 x0 x4).f4))).bind fun t148 => (if (((((((((t143 ++ (⟨#[44]⟩ : ByteArray)) ++ t144) ++ (⟨#[32]⟩ : ByteArray)) ++ t145) ++ (⟨#[32]⟩ : ByteArray)) ++ t146) ++ (⟨#[32]⟩ : ByteArray)) ++ t147) ++ (⟨#[32]⟩ : ByteArray)).size + t148.size ≤ 9223372036854775807 then (if ((((((((((t143 ++ (⟨#[44]⟩ : ByteArray)) ++ t144) ++ (⟨#[32]⟩ : ByteArray)) ++ t145) ++ (⟨#[32]⟩ : ByteArray)) ++ t146) ++ (⟨#[32]⟩ : ByteArray)) ++ t147) ++ (⟨#[32]⟩ : ByteArray)) ++ t148).size + 1 ≤ 9223372036854775807 then (if x3.size + (((((((((((t143 ++ (⟨#[44]⟩ : ByteArray)) ++ t144) ++ (⟨#[32]⟩ : ByteArray)) ++ t145) ++ (⟨#[32]⟩ : ByteArray)) ++ t146) ++ (⟨#[32]⟩ : ByteArray)) ++ t147) ++ (⟨#[32]⟩ : ByteArray)) ++ t148) ++ (⟨#[10]⟩ : ByteArray)).size ≤ 9223372036854775807 then (spec_l01Boats.l0 k x0 (x3 ++ (((((((((((t143 ++ (⟨#[44]⟩ : ByteArray)) ++ t144) ++ (⟨#[32]⟩ : ByteArray)) ++ t145) ++ (⟨#[32]⟩ : ByteArray)) ++ t146) ++ (⟨#[32]⟩ : ByteArray)) ++ t147) ++ (⟨#[32]⟩ : ByteArray)) ++ t148) ++ (⟨#[10]⟩ : ByteArray))) (wrap64 (x4 + 1))) else (none)) else (none)) else (none))) else (none)) else (none))) else (none)) else (none))) else (none)) else (none))) else (none)) else (none))) else (none))) else (none)) else (some x3)
def spec_l01Boats.f (k : Nat) (l0 : List (S59)) : Option (ByteArray) := spec_l01Boats.l0 k l0 (⟨#[]⟩ : ByteArray) 0
theorem spec_l01Boats.mono_l : ∀ k, (∀ y0 y1 y2, LeO (spec_l01Boats.l0 k y0 y1 y2) (spec_l01Boats.l0 (k + 1) y0 y1 y2))
  | 0 => fun _ _ _ r h => by simp [spec_l01Boats.l0] at h
  | k + 1 => by
    have ih0 := spec_l01Boats.mono_l k
    · intro y0 y1 y2
      unfold spec_l01Boats.l0
      repeat' first
      | (with_reducible exact ih0 _ _ _)
      | (with_reducible exact spec_Decimal.mono _ _)
      | (with_reducible exact LeO.refl _)
      | (with_reducible exact LeO.none _)
      | (with_reducible refine LeO.ite ?_ ?_)
      | (with_reducible refine LeO.bind ?_ (fun _ => ?_))
      | exact ih0 _ _ _
      | exact spec_Decimal.mono _ _
      | exact LeO.none _
      | refine LeO.ite ?_ ?_
      | refine LeO.bind ?_ (fun _ => ?_)
theorem spec_l01Boats.mono : ∀ a0 k, LeO (spec_l01Boats.f k a0) (spec_l01Boats.f (k + 1) a0) := by
  intro a0 k
  have ih0 := spec_l01Boats.mono_l k
  unfold spec_l01Boats.f
  repeat' first
      | (with_reducible exact ih0 _ _ _)
      | (with_reducible exact spec_Decimal.mono _ _)
      | (with_reducible exact LeO.refl _)
      | (with_reducible exact LeO.none _)
      | (with_reducible refine LeO.ite ?_ ?_)
      | (with_reducible refine LeO.bind ?_ (fun _ => ?_))
      | exact ih0 _ _ _
      | exact spec_Decimal.mono _ _
      | exact LeO.none _
      | refine LeO.ite ?_ ?_
      | refine LeO.bind ?_ (fun _ => ?_)
def spec_l01Boats.T6 : Bool × List (List Nat × List Nat) := (true, [([], []), ([], []), ([1], [1]), ([2], [2]), ([3], [3]), ([4], [4]), ([5], [5]), ([], []), ([7], [7]), ([8], [8]), ([9], [9]), ([10, 5], [10]), ([6, 11], [6, 11]), ([12], [12]), ([], []), ([14], [14]), ([15], [15]), ([16, 11], [16]), ([13, 17], [13, 17]), ([18], [18]), ([], []), ([20], [20]), ([21], [21]), ([22, 17], [22]), ([19, 23], [19, 23]), ([24], [24]), ([], []), ([26], [26]), ([27], [27]), ([28, 23], [28]), ([25, 29], [25, 29]), ([30], [30]), ([], []), ([32], [32]), ([33], [33]), ([34, 29], [34]), ([31, 35], [31, 35]), ([36], [36]), ([0, 37], [0, 37]), ([38, 35, 0, 1, 2, 3, 4, 5, 6, 7, 8, 9, 10, 11, 12, 13, 14, 15, 16, 17, 18, 19, 20, 21, 22, 23, 24, 25, 26, 27, 28, 29, 30, 31, 32, 33, 34, 35, 36, 37, 38], [0, 38])])
def spec_l01Boats.B6 : List Nat := [0, 0, 2, 6, 14, 30, 62, 0, 128, 384, 896, 1982, 4094, 8190, 0, 16384, 49152, 118718, 262142, 524286, 0, 1048576, 3145728, 7589822, 16777214, 33554430, 0, 67108864, 201326592, 485740478, 1073741822, 2147483646, 0, 4294967296, 12884901888, 31087382462, 68719476734, 137438953470, 274877906943, 549755813887]
theorem spec_l01Boats.tab6 : rtab .any (opsOf Tryd.f29 6) = spec_l01Boats.T6 := by kernel_rfl
theorem spec_l01Boats.bits6 : waitsOk spec_l01Boats.T6.2 spec_l01Boats.B6 = true := by kernel_rfl
set_option maxHeartbeats 8000000 in
set_option maxRecDepth 100000 in
theorem spec_l01Boats.calls (k : Nat) (A0 : Option Addr) (c0 : Nat) (l0 : List (S59)) (r : ByteArray) (w : World) (hr0 : Kd.C k59 w A0 l0.length l0) (hc0 : l0.length ≤ c0) (h : spec_l01Boats.f k l0 = some r) :
    Calls Tryd.prog 29 #[.slice A0 l0.length c0] w fun e w' => e = .returned (.string r) ∧ Below w.heap.size w w' := by
  have hu59 := Tryd.underlying59
  have HR0 := Aside0.mk hr0
  have HC0 := Aside0.mk hc0
  clear hr0 hc0
  have HB := Aside0.mk (Below.refl w.heap.size w)
  have H : (spec_l01Boats.l0 k l0 (⟨#[]⟩ : ByteArray) 0) = some r := h
  clear h
  have H' := Aside0.mk H
  clear H
  go_enter Tryd.func29, Tryd.ntmps29
  go_wp2
  go_loopg [3, 4] k (fun kq v3 v4 w' => ∃ (x3_1 : ByteArray) (x4_1 : Int), v3 = .string x3_1 ∧ v4 = .int .i64 x4_1 ∧ Aside0 (spec_l01Boats.l0 kq l0 x3_1 x4_1 = some r) ∧ Aside0 (kq ≤ k) ∧ Aside0 (Below w.heap.size w w'))
  case atStart => exact ⟨((⟨#[]⟩ : ByteArray)), (0), (by first | rfl | (simp; done) | (simp [*]; done) | (rw [i8_wrap_le] <;> first | rfl | omega)), (by first | rfl | (simp; done) | (simp [*]; done) | (rw [i8_wrap_le] <;> first | rfl | omega)), H', ⟨Nat.le_refl _⟩, ⟨by repeat (first | (with_reducible first | exact HB.out | apply below_alloc | apply pw_below_drewN | apply below_drew1) | exact HB.out)⟩⟩
  case round =>
    clear H'
    obtain ⟨x3_1, x4_1, rfl, rfl, HA, HK1, HB⟩ := hrel
    cases gk with
    | zero => exact absurd HA.out (by simp [spec_l01Boats.l0])
    | succ k1 =>
      have H := HA.out
      clear HA
      simp only [spec_l01Boats.l0] at H
      by_cases c2 : x4_1 < (l0.length : Int)
      · rw [if_pos c2] at H
        have c2b0 : decide (x4_1 < (l0.length : Int)) = true := decide_eq_true c2
        clear c2
        by_cases c3 : 0 ≤ x4_1
        · rw [if_pos c3] at H
          have c3b0 : decide (0 ≤ x4_1) = true := decide_eq_true c3
          have c3b1 : 0 ≤ x4_1 := c3
          clear c3
          replace H := Option.bind_eq_some_iff.mp H
          obtain ⟨t143, A40, H⟩ := H
          replace H : (if t143.size + 1 ≤ 9223372036854775807 then ((spec_Decimal.f k1 (wrap64 ((rd_T59 l0 x4_1).f0.f1))).bind fun t144 => (if (t143 ++ (⟨#[44]⟩ : ByteArray)).size + t144.size ≤ 9223372036854775807 then (if ((t143 ++ (⟨#[44]⟩ : ByteArray)) ++ t144).size + 1 ≤ 9223372036854775807 then ((spec_Decimal.f k1 (wrap64 ((rd_T59 l0 x4_1).f1))).bind fun t145 => (if (((t143 ++ (⟨#[44]⟩ : ByteArray)) ++ t144) ++ (⟨#[32]⟩ : ByteArray)).size + t145.size ≤ 9223372036854775807 then (if ((((t143 ++ (⟨#[44]⟩ : ByteArray)) ++ t144) ++ (⟨#[32]⟩ : ByteArray)) ++ t145).size + 1 ≤ 9223372036854775807 then ((spec_Decimal.f k1 (wrap64 ((rd_T59 l0 x4_1).f2))).bind fun t146 => (if (((((t143 ++ (⟨#[44]⟩ : ByteArray)) ++ t144) ++ (⟨#[32]⟩ : ByteArray)) ++ t145) ++ (⟨#[32]⟩ : ByteArray)).size + t146.size ≤ 9223372036854775807 then (if ((((((t143 ++ (⟨#[44]⟩ : ByteArray)) ++ t144) ++ (⟨#[32]⟩ : ByteArray)) ++ t145) ++ (⟨#[32]⟩ : ByteArray)) ++ t146).size + 1 ≤ 9223372036854775807 then ((spec_Decimal.f k1 (wrap64 ((rd_T59 l0 x4_1).f3))).bind fun t147 => (if (((((((t143 ++ (⟨#[44]⟩ : ByteArray)) ++ t144) ++ (⟨#[32]⟩ : ByteArray)) ++ t145) ++ (⟨#[32]⟩ : ByteArray)) ++ t146) ++ (⟨#[32]⟩ : ByteArray)).size + t147.size ≤ 9223372036854775807 then (if ((((((((t143 ++ (⟨#[44]⟩ : ByteArray)) ++ t144) ++ (⟨#[32]⟩ : ByteArray)) ++ t145) ++ (⟨#[32]⟩ : ByteArray)) ++ t146) ++ (⟨#[32]⟩ : ByteArray)) ++ t147).size + 1 ≤ 9223372036854775807 then ((spec_Decimal.f k1 (wrap64 ((rd_T59 l0 x4_1).f4))).bind fun t148 => (if (((((((((t143 ++ (⟨#[44]⟩ : ByteArray)) ++ t144) ++ (⟨#[32]⟩ : ByteArray)) ++ t145) ++ (⟨#[32]⟩ : ByteArray)) ++ t146) ++ (⟨#[32]⟩ : ByteArray)) ++ t147) ++ (⟨#[32]⟩ : ByteArray)).size + t148.size ≤ 9223372036854775807 then (if ((((((((((t143 ++ (⟨#[44]⟩ : ByteArray)) ++ t144) ++ (⟨#[32]⟩ : ByteArray)) ++ t145) ++ (⟨#[32]⟩ : ByteArray)) ++ t146) ++ (⟨#[32]⟩ : ByteArray)) ++ t147) ++ (⟨#[32]⟩ : ByteArray)) ++ t148).size + 1 ≤ 9223372036854775807 then (if x3_1.size + (((((((((((t143 ++ (⟨#[44]⟩ : ByteArray)) ++ t144) ++ (⟨#[32]⟩ : ByteArray)) ++ t145) ++ (⟨#[32]⟩ : ByteArray)) ++ t146) ++ (⟨#[32]⟩ : ByteArray)) ++ t147) ++ (⟨#[32]⟩ : ByteArray)) ++ t148) ++ (⟨#[10]⟩ : ByteArray)).size ≤ 9223372036854775807 then (spec_l01Boats.l0 k1 l0 (x3_1 ++ (((((((((((t143 ++ (⟨#[44]⟩ : ByteArray)) ++ t144) ++ (⟨#[32]⟩ : ByteArray)) ++ t145) ++ (⟨#[32]⟩ : ByteArray)) ++ t146) ++ (⟨#[32]⟩ : ByteArray)) ++ t147) ++ (⟨#[32]⟩ : ByteArray)) ++ t148) ++ (⟨#[10]⟩ : ByteArray))) (wrap64 (x4_1 + 1))) else (none)) else (none)) else (none))) else (none)) else (none))) else (none)) else (none))) else (none)) else (none))) else (none)) else (none))) else (none)) = some r := H
          have A4 := Aside0.mk A40
          clear A40
          by_cases c5 : t143.size + 1 ≤ 9223372036854775807
          · rw [if_pos c5] at H
            have c5b0 := eq_true c5
            have c5b1 : decide (t143.size + 1 ≤ 9223372036854775807) = true := decide_eq_true c5
            try have c5b2 : (9223372036854775807 < t143.size + 1) = False := eq_false (Nat.not_lt.2 c5)
            replace H := Option.bind_eq_some_iff.mp H
            obtain ⟨t144, A60, H⟩ := H
            replace H : (if (t143 ++ (⟨#[44]⟩ : ByteArray)).size + t144.size ≤ 9223372036854775807 then (if ((t143 ++ (⟨#[44]⟩ : ByteArray)) ++ t144).size + 1 ≤ 9223372036854775807 then ((spec_Decimal.f k1 (wrap64 ((rd_T59 l0 x4_1).f1))).bind fun t145 => (if (((t143 ++ (⟨#[44]⟩ : ByteArray)) ++ t144) ++ (⟨#[32]⟩ : ByteArray)).size + t145.size ≤ 9223372036854775807 then (if ((((t143 ++ (⟨#[44]⟩ : ByteArray)) ++ t144) ++ (⟨#[32]⟩ : ByteArray)) ++ t145).size + 1 ≤ 9223372036854775807 then ((spec_Decimal.f k1 (wrap64 ((rd_T59 l0 x4_1).f2))).bind fun t146 => (if (((((t143 ++ (⟨#[44]⟩ : ByteArray)) ++ t144) ++ (⟨#[32]⟩ : ByteArray)) ++ t145) ++ (⟨#[32]⟩ : ByteArray)).size + t146.size ≤ 9223372036854775807 then (if ((((((t143 ++ (⟨#[44]⟩ : ByteArray)) ++ t144) ++ (⟨#[32]⟩ : ByteArray)) ++ t145) ++ (⟨#[32]⟩ : ByteArray)) ++ t146).size + 1 ≤ 9223372036854775807 then ((spec_Decimal.f k1 (wrap64 ((rd_T59 l0 x4_1).f3))).bind fun t147 => (if (((((((t143 ++ (⟨#[44]⟩ : ByteArray)) ++ t144) ++ (⟨#[32]⟩ : ByteArray)) ++ t145) ++ (⟨#[32]⟩ : ByteArray)) ++ t146) ++ (⟨#[32]⟩ : ByteArray)).size + t147.size ≤ 9223372036854775807 then (if ((((((((t143 ++ (⟨#[44]⟩ : ByteArray)) ++ t144) ++ (⟨#[32]⟩ : ByteArray)) ++ t145) ++ (⟨#[32]⟩ : ByteArray)) ++ t146) ++ (⟨#[32]⟩ : ByteArray)) ++ t147).size + 1 ≤ 9223372036854775807 then ((spec_Decimal.f k1 (wrap64 ((rd_T59 l0 x4_1).f4))).bind fun t148 => (if (((((((((t143 ++ (⟨#[44]⟩ : ByteArray)) ++ t144) ++ (⟨#[32]⟩ : ByteArray)) ++ t145) ++ (⟨#[32]⟩ : ByteArray)) ++ t146) ++ (⟨#[32]⟩ : ByteArray)) ++ t147) ++ (⟨#[32]⟩ : ByteArray)).size + t148.size ≤ 9223372036854775807 then (if ((((((((((t143 ++ (⟨#[44]⟩ : ByteArray)) ++ t144) ++ (⟨#[32]⟩ : ByteArray)) ++ t145) ++ (⟨#[32]⟩ : ByteArray)) ++ t146) ++ (⟨#[32]⟩ : ByteArray)) ++ t147) ++ (⟨#[32]⟩ : ByteArray)) ++ t148).size + 1 ≤ 9223372036854775807 then (if x3_1.size + (((((((((((t143 ++ (⟨#[44]⟩ : ByteArray)) ++ t144) ++ (⟨#[32]⟩ : ByteArray)) ++ t145) ++ (⟨#[32]⟩ : ByteArray)) ++ t146) ++ (⟨#[32]⟩ : ByteArray)) ++ t147) ++ (⟨#[32]⟩ : ByteArray)) ++ t148) ++ (⟨#[10]⟩ : ByteArray)).size ≤ 9223372036854775807 then (spec_l01Boats.l0 k1 l0 (x3_1 ++ (((((((((((t143 ++ (⟨#[44]⟩ : ByteArray)) ++ t144) ++ (⟨#[32]⟩ : ByteArray)) ++ t145) ++ (⟨#[32]⟩ : ByteArray)) ++ t146) ++ (⟨#[32]⟩ : ByteArray)) ++ t147) ++ (⟨#[32]⟩ : ByteArray)) ++ t148) ++ (⟨#[10]⟩ : ByteArray))) (wrap64 (x4_1 + 1))) else (none)) else (none)) else (none))) else (none)) else (none))) else (none)) else (none))) else (none)) else (none))) else (none)) else (none)) = some r := H
            have A6 := Aside0.mk A60
            clear A60
            by_cases c7 : (t143 ++ (⟨#[44]⟩ : ByteArray)).size + t144.size ≤ 9223372036854775807
            · rw [if_pos c7] at H
              have c7b0 := eq_true c7
              have c7b1 : decide ((t143 ++ (⟨#[44]⟩ : ByteArray)).size + t144.size ≤ 9223372036854775807) = true := decide_eq_true c7
              try have c7b2 : (9223372036854775807 < (t143 ++ (⟨#[44]⟩ : ByteArray)).size + t144.size) = False := eq_false (Nat.not_lt.2 c7)
              try have c7b3 : (9223372036854775807 < t143.size + 1 + t144.size) = False := by have h_ := c7; simp only [ByteArray.size_append] at h_; exact eq_false (Nat.not_lt.2 h_)
              by_cases c8 : ((t143 ++ (⟨#[44]⟩ : ByteArray)) ++ t144).size + 1 ≤ 9223372036854775807
              · rw [if_pos c8] at H
                have c8b0 := eq_true c8
                have c8b1 : decide (((t143 ++ (⟨#[44]⟩ : ByteArray)) ++ t144).size + 1 ≤ 9223372036854775807) = true := decide_eq_true c8
                try have c8b2 : (9223372036854775807 < ((t143 ++ (⟨#[44]⟩ : ByteArray)) ++ t144).size + 1) = False := eq_false (Nat.not_lt.2 c8)
                try have c8b3 : (9223372036854775807 < t143.size + 1 + t144.size + 1) = False := by have h_ := c8; simp only [ByteArray.size_append] at h_; exact eq_false (Nat.not_lt.2 h_)
                replace H := Option.bind_eq_some_iff.mp H
                obtain ⟨t145, A90, H⟩ := H
                replace H : (if (((t143 ++ (⟨#[44]⟩ : ByteArray)) ++ t144) ++ (⟨#[32]⟩ : ByteArray)).size + t145.size ≤ 9223372036854775807 then (if ((((t143 ++ (⟨#[44]⟩ : ByteArray)) ++ t144) ++ (⟨#[32]⟩ : ByteArray)) ++ t145).size + 1 ≤ 9223372036854775807 then ((spec_Decimal.f k1 (wrap64 ((rd_T59 l0 x4_1).f2))).bind fun t146 => (if (((((t143 ++ (⟨#[44]⟩ : ByteArray)) ++ t144) ++ (⟨#[32]⟩ : ByteArray)) ++ t145) ++ (⟨#[32]⟩ : ByteArray)).size + t146.size ≤ 9223372036854775807 then (if ((((((t143 ++ (⟨#[44]⟩ : ByteArray)) ++ t144) ++ (⟨#[32]⟩ : ByteArray)) ++ t145) ++ (⟨#[32]⟩ : ByteArray)) ++ t146).size + 1 ≤ 9223372036854775807 then ((spec_Decimal.f k1 (wrap64 ((rd_T59 l0 x4_1).f3))).bind fun t147 => (if (((((((t143 ++ (⟨#[44]⟩ : ByteArray)) ++ t144) ++ (⟨#[32]⟩ : ByteArray)) ++ t145) ++ (⟨#[32]⟩ : ByteArray)) ++ t146) ++ (⟨#[32]⟩ : ByteArray)).size + t147.size ≤ 9223372036854775807 then (if ((((((((t143 ++ (⟨#[44]⟩ : ByteArray)) ++ t144) ++ (⟨#[32]⟩ : ByteArray)) ++ t145) ++ (⟨#[32]⟩ : ByteArray)) ++ t146) ++ (⟨#[32]⟩ : ByteArray)) ++ t147).size + 1 ≤ 9223372036854775807 then ((spec_Decimal.f k1 (wrap64 ((rd_T59 l0 x4_1).f4))).bind fun t148 => (if (((((((((t143 ++ (⟨#[44]⟩ : ByteArray)) ++ t144) ++ (⟨#[32]⟩ : ByteArray)) ++ t145) ++ (⟨#[32]⟩ : ByteArray)) ++ t146) ++ (⟨#[32]⟩ : ByteArray)) ++ t147) ++ (⟨#[32]⟩ : ByteArray)).size + t148.size ≤ 9223372036854775807 then (if ((((((((((t143 ++ (⟨#[44]⟩ : ByteArray)) ++ t144) ++ (⟨#[32]⟩ : ByteArray)) ++ t145) ++ (⟨#[32]⟩ : ByteArray)) ++ t146) ++ (⟨#[32]⟩ : ByteArray)) ++ t147) ++ (⟨#[32]⟩ : ByteArray)) ++ t148).size + 1 ≤ 9223372036854775807 then (if x3_1.size + (((((((((((t143 ++ (⟨#[44]⟩ : ByteArray)) ++ t144) ++ (⟨#[32]⟩ : ByteArray)) ++ t145) ++ (⟨#[32]⟩ : ByteArray)) ++ t146) ++ (⟨#[32]⟩ : ByteArray)) ++ t147) ++ (⟨#[32]⟩ : ByteArray)) ++ t148) ++ (⟨#[10]⟩ : ByteArray)).size ≤ 9223372036854775807 then (spec_l01Boats.l0 k1 l0 (x3_1 ++ (((((((((((t143 ++ (⟨#[44]⟩ : ByteArray)) ++ t144) ++ (⟨#[32]⟩ : ByteArray)) ++ t145) ++ (⟨#[32]⟩ : ByteArray)) ++ t146) ++ (⟨#[32]⟩ : ByteArray)) ++ t147) ++ (⟨#[32]⟩ : ByteArray)) ++ t148) ++ (⟨#[10]⟩ : ByteArray))) (wrap64 (x4_1 + 1))) else (none)) else (none)) else (none))) else (none)) else (none))) else (none)) else (none))) else (none)) else (none)) = some r := H
                have A9 := Aside0.mk A90
                clear A90
                by_cases c10 : (((t143 ++ (⟨#[44]⟩ : ByteArray)) ++ t144) ++ (⟨#[32]⟩ : ByteArray)).size + t145.size ≤ 9223372036854775807
                · rw [if_pos c10] at H
                  have c10b0 := eq_true c10
                  have c10b1 : decide ((((t143 ++ (⟨#[44]⟩ : ByteArray)) ++ t144) ++ (⟨#[32]⟩ : ByteArray)).size + t145.size ≤ 9223372036854775807) = true := decide_eq_true c10
                  try have c10b2 : (9223372036854775807 < (((t143 ++ (⟨#[44]⟩ : ByteArray)) ++ t144) ++ (⟨#[32]⟩ : ByteArray)).size + t145.size) = False := eq_false (Nat.not_lt.2 c10)
                  try have c10b3 : (9223372036854775807 < t143.size + 1 + t144.size + 1 + t145.size) = False := by have h_ := c10; simp only [ByteArray.size_append] at h_; exact eq_false (Nat.not_lt.2 h_)
                  by_cases c11 : ((((t143 ++ (⟨#[44]⟩ : ByteArray)) ++ t144) ++ (⟨#[32]⟩ : ByteArray)) ++ t145).size + 1 ≤ 9223372036854775807
                  · rw [if_pos c11] at H
                    have c11b0 := eq_true c11
                    have c11b1 : decide (((((t143 ++ (⟨#[44]⟩ : ByteArray)) ++ t144) ++ (⟨#[32]⟩ : ByteArray)) ++ t145).size + 1 ≤ 9223372036854775807) = true := decide_eq_true c11
                    try have c11b2 : (9223372036854775807 < ((((t143 ++ (⟨#[44]⟩ : ByteArray)) ++ t144) ++ (⟨#[32]⟩ : ByteArray)) ++ t145).size + 1) = False := eq_false (Nat.not_lt.2 c11)
                    try have c11b3 : (9223372036854775807 < t143.size + 1 + t144.size + 1 + t145.size + 1) = False := by have h_ := c11; simp only [ByteArray.size_append] at h_; exact eq_false (Nat.not_lt.2 h_)
                    replace H := Option.bind_eq_some_iff.mp H
                    obtain ⟨t146, A120, H⟩ := H
                    replace H : (if (((((t143 ++ (⟨#[44]⟩ : ByteArray)) ++ t144) ++ (⟨#[32]⟩ : ByteArray)) ++ t145) ++ (⟨#[32]⟩ : ByteArray)).size + t146.size ≤ 9223372036854775807 then (if ((((((t143 ++ (⟨#[44]⟩ : ByteArray)) ++ t144) ++ (⟨#[32]⟩ : ByteArray)) ++ t145) ++ (⟨#[32]⟩ : ByteArray)) ++ t146).size + 1 ≤ 9223372036854775807 then ((spec_Decimal.f k1 (wrap64 ((rd_T59 l0 x4_1).f3))).bind fun t147 => (if (((((((t143 ++ (⟨#[44]⟩ : ByteArray)) ++ t144) ++ (⟨#[32]⟩ : ByteArray)) ++ t145) ++ (⟨#[32]⟩ : ByteArray)) ++ t146) ++ (⟨#[32]⟩ : ByteArray)).size + t147.size ≤ 9223372036854775807 then (if ((((((((t143 ++ (⟨#[44]⟩ : ByteArray)) ++ t144) ++ (⟨#[32]⟩ : ByteArray)) ++ t145) ++ (⟨#[32]⟩ : ByteArray)) ++ t146) ++ (⟨#[32]⟩ : ByteArray)) ++ t147).size + 1 ≤ 9223372036854775807 then ((spec_Decimal.f k1 (wrap64 ((rd_T59 l0 x4_1).f4))).bind fun t148 => (if (((((((((t143 ++ (⟨#[44]⟩ : ByteArray)) ++ t144) ++ (⟨#[32]⟩ : ByteArray)) ++ t145) ++ (⟨#[32]⟩ : ByteArray)) ++ t146) ++ (⟨#[32]⟩ : ByteArray)) ++ t147) ++ (⟨#[32]⟩ : ByteArray)).size + t148.size ≤ 9223372036854775807 then (if ((((((((((t143 ++ (⟨#[44]⟩ : ByteArray)) ++ t144) ++ (⟨#[32]⟩ : ByteArray)) ++ t145) ++ (⟨#[32]⟩ : ByteArray)) ++ t146) ++ (⟨#[32]⟩ : ByteArray)) ++ t147) ++ (⟨#[32]⟩ : ByteArray)) ++ t148).size + 1 ≤ 9223372036854775807 then (if x3_1.size + (((((((((((t143 ++ (⟨#[44]⟩ : ByteArray)) ++ t144) ++ (⟨#[32]⟩ : ByteArray)) ++ t145) ++ (⟨#[32]⟩ : ByteArray)) ++ t146) ++ (⟨#[32]⟩ : ByteArray)) ++ t147) ++ (⟨#[32]⟩ : ByteArray)) ++ t148) ++ (⟨#[10]⟩ : ByteArray)).size ≤ 9223372036854775807 then (spec_l01Boats.l0 k1 l0 (x3_1 ++ (((((((((((t143 ++ (⟨#[44]⟩ : ByteArray)) ++ t144) ++ (⟨#[32]⟩ : ByteArray)) ++ t145) ++ (⟨#[32]⟩ : ByteArray)) ++ t146) ++ (⟨#[32]⟩ : ByteArray)) ++ t147) ++ (⟨#[32]⟩ : ByteArray)) ++ t148) ++ (⟨#[10]⟩ : ByteArray))) (wrap64 (x4_1 + 1))) else (none)) else (none)) else (none))) else (none)) else (none))) else (none)) else (none)) = some r := H
                    have A12 := Aside0.mk A120
                    clear A120
                    by_cases c13 : (((((t143 ++ (⟨#[44]⟩ : ByteArray)) ++ t144) ++ (⟨#[32]⟩ : ByteArray)) ++ t145) ++ (⟨#[32]⟩ : ByteArray)).size + t146.size ≤ 9223372036854775807
                    · rw [if_pos c13] at H
                      have c13b0 := eq_true c13
                      have c13b1 : decide ((((((t143 ++ (⟨#[44]⟩ : ByteArray)) ++ t144) ++ (⟨#[32]⟩ : ByteArray)) ++ t145) ++ (⟨#[32]⟩ : ByteArray)).size + t146.size ≤ 9223372036854775807) = true := decide_eq_true c13
                      try have c13b2 : (9223372036854775807 < (((((t143 ++ (⟨#[44]⟩ : ByteArray)) ++ t144) ++ (⟨#[32]⟩ : ByteArray)) ++ t145) ++ (⟨#[32]⟩ : ByteArray)).size + t146.size) = False := eq_false (Nat.not_lt.2 c13)
                      try have c13b3 : (9223372036854775807 < t143.size + 1 + t144.size + 1 + t145.size + 1 + t146.size) = False := by have h_ := c13; simp only [ByteArray.size_append] at h_; exact eq_false (Nat.not_lt.2 h_)
                      by_cases c14 : ((((((t143 ++ (⟨#[44]⟩ : ByteArray)) ++ t144) ++ (⟨#[32]⟩ : ByteArray)) ++ t145) ++ (⟨#[32]⟩ : ByteArray)) ++ t146).size + 1 ≤ 9223372036854775807
                      · rw [if_pos c14] at H
                        have c14b0 := eq_true c14
                        have c14b1 : decide (((((((t143 ++ (⟨#[44]⟩ : ByteArray)) ++ t144) ++ (⟨#[32]⟩ : ByteArray)) ++ t145) ++ (⟨#[32]⟩ : ByteArray)) ++ t146).size + 1 ≤ 9223372036854775807) = true := decide_eq_true c14
                        try have c14b2 : (9223372036854775807 < ((((((t143 ++ (⟨#[44]⟩ : ByteArray)) ++ t144) ++ (⟨#[32]⟩ : ByteArray)) ++ t145) ++ (⟨#[32]⟩ : ByteArray)) ++ t146).size + 1) = False := eq_false (Nat.not_lt.2 c14)
                        try have c14b3 : (9223372036854775807 < t143.size + 1 + t144.size + 1 + t145.size + 1 + t146.size + 1) = False := by have h_ := c14; simp only [ByteArray.size_append] at h_; exact eq_false (Nat.not_lt.2 h_)
                        replace H := Option.bind_eq_some_iff.mp H
                        obtain ⟨t147, A150, H⟩ := H
                        replace H : (if (((((((t143 ++ (⟨#[44]⟩ : ByteArray)) ++ t144) ++ (⟨#[32]⟩ : ByteArray)) ++ t145) ++ (⟨#[32]⟩ : ByteArray)) ++ t146) ++ (⟨#[32]⟩ : ByteArray)).size + t147.size ≤ 9223372036854775807 then (if ((((((((t143 ++ (⟨#[44]⟩ : ByteArray)) ++ t144) ++ (⟨#[32]⟩ : ByteArray)) ++ t145) ++ (⟨#[32]⟩ : ByteArray)) ++ t146) ++ (⟨#[32]⟩ : ByteArray)) ++ t147).size + 1 ≤ 9223372036854775807 then ((spec_Decimal.f k1 (wrap64 ((rd_T59 l0 x4_1).f4))).bind fun t148 => (if (((((((((t143 ++ (⟨#[44]⟩ : ByteArray)) ++ t144) ++ (⟨#[32]⟩ : ByteArray)) ++ t145) ++ (⟨#[32]⟩ : ByteArray)) ++ t146) ++ (⟨#[32]⟩ : ByteArray)) ++ t147) ++ (⟨#[32]⟩ : ByteArray)).size + t148.size ≤ 9223372036854775807 then (if ((((((((((t143 ++ (⟨#[44]⟩ : ByteArray)) ++ t144) ++ (⟨#[32]⟩ : ByteArray)) ++ t145) ++ (⟨#[32]⟩ : ByteArray)) ++ t146) ++ (⟨#[32]⟩ : ByteArray)) ++ t147) ++ (⟨#[32]⟩ : ByteArray)) ++ t148).size + 1 ≤ 9223372036854775807 then (if x3_1.size + (((((((((((t143 ++ (⟨#[44]⟩ : ByteArray)) ++ t144) ++ (⟨#[32]⟩ : ByteArray)) ++ t145) ++ (⟨#[32]⟩ : ByteArray)) ++ t146) ++ (⟨#[32]⟩ : ByteArray)) ++ t147) ++ (⟨#[32]⟩ : ByteArray)) ++ t148) ++ (⟨#[10]⟩ : ByteArray)).size ≤ 9223372036854775807 then (spec_l01Boats.l0 k1 l0 (x3_1 ++ (((((((((((t143 ++ (⟨#[44]⟩ : ByteArray)) ++ t144) ++ (⟨#[32]⟩ : ByteArray)) ++ t145) ++ (⟨#[32]⟩ : ByteArray)) ++ t146) ++ (⟨#[32]⟩ : ByteArray)) ++ t147) ++ (⟨#[32]⟩ : ByteArray)) ++ t148) ++ (⟨#[10]⟩ : ByteArray))) (wrap64 (x4_1 + 1))) else (none)) else (none)) else (none))) else (none)) else (none)) = some r := H
                        have A15 := Aside0.mk A150
                        clear A150
                        by_cases c16 : (((((((t143 ++ (⟨#[44]⟩ : ByteArray)) ++ t144) ++ (⟨#[32]⟩ : ByteArray)) ++ t145) ++ (⟨#[32]⟩ : ByteArray)) ++ t146) ++ (⟨#[32]⟩ : ByteArray)).size + t147.size ≤ 9223372036854775807
                        · rw [if_pos c16] at H
                          have c16b0 := eq_true c16
                          have c16b1 : decide ((((((((t143 ++ (⟨#[44]⟩ : ByteArray)) ++ t144) ++ (⟨#[32]⟩ : ByteArray)) ++ t145) ++ (⟨#[32]⟩ : ByteArray)) ++ t146) ++ (⟨#[32]⟩ : ByteArray)).size + t147.size ≤ 9223372036854775807) = true := decide_eq_true c16
                          try have c16b2 : (9223372036854775807 < (((((((t143 ++ (⟨#[44]⟩ : ByteArray)) ++ t144) ++ (⟨#[32]⟩ : ByteArray)) ++ t145) ++ (⟨#[32]⟩ : ByteArray)) ++ t146) ++ (⟨#[32]⟩ : ByteArray)).size + t147.size) = False := eq_false (Nat.not_lt.2 c16)
                          try have c16b3 : (9223372036854775807 < t143.size + 1 + t144.size + 1 + t145.size + 1 + t146.size + 1 + t147.size) = False := by have h_ := c16; simp only [ByteArray.size_append] at h_; exact eq_false (Nat.not_lt.2 h_)
                          by_cases c17 : ((((((((t143 ++ (⟨#[44]⟩ : ByteArray)) ++ t144) ++ (⟨#[32]⟩ : ByteArray)) ++ t145) ++ (⟨#[32]⟩ : ByteArray)) ++ t146) ++ (⟨#[32]⟩ : ByteArray)) ++ t147).size + 1 ≤ 9223372036854775807
                          · rw [if_pos c17] at H
                            have c17b0 := eq_true c17
                            have c17b1 : decide (((((((((t143 ++ (⟨#[44]⟩ : ByteArray)) ++ t144) ++ (⟨#[32]⟩ : ByteArray)) ++ t145) ++ (⟨#[32]⟩ : ByteArray)) ++ t146) ++ (⟨#[32]⟩ : ByteArray)) ++ t147).size + 1 ≤ 9223372036854775807) = true := decide_eq_true c17
                            try have c17b2 : (9223372036854775807 < ((((((((t143 ++ (⟨#[44]⟩ : ByteArray)) ++ t144) ++ (⟨#[32]⟩ : ByteArray)) ++ t145) ++ (⟨#[32]⟩ : ByteArray)) ++ t146) ++ (⟨#[32]⟩ : ByteArray)) ++ t147).size + 1) = False := eq_false (Nat.not_lt.2 c17)
                            try have c17b3 : (9223372036854775807 < t143.size + 1 + t144.size + 1 + t145.size + 1 + t146.size + 1 + t147.size + 1) = False := by have h_ := c17; simp only [ByteArray.size_append] at h_; exact eq_false (Nat.not_lt.2 h_)
                            replace H := Option.bind_eq_some_iff.mp H
                            obtain ⟨t148, A180, H⟩ := H
                            replace H : (if (((((((((t143 ++ (⟨#[44]⟩ : ByteArray)) ++ t144) ++ (⟨#[32]⟩ : ByteArray)) ++ t145) ++ (⟨#[32]⟩ : ByteArray)) ++ t146) ++ (⟨#[32]⟩ : ByteArray)) ++ t147) ++ (⟨#[32]⟩ : ByteArray)).size + t148.size ≤ 9223372036854775807 then (if ((((((((((t143 ++ (⟨#[44]⟩ : ByteArray)) ++ t144) ++ (⟨#[32]⟩ : ByteArray)) ++ t145) ++ (⟨#[32]⟩ : ByteArray)) ++ t146) ++ (⟨#[32]⟩ : ByteArray)) ++ t147) ++ (⟨#[32]⟩ : ByteArray)) ++ t148).size + 1 ≤ 9223372036854775807 then (if x3_1.size + (((((((((((t143 ++ (⟨#[44]⟩ : ByteArray)) ++ t144) ++ (⟨#[32]⟩ : ByteArray)) ++ t145) ++ (⟨#[32]⟩ : ByteArray)) ++ t146) ++ (⟨#[32]⟩ : ByteArray)) ++ t147) ++ (⟨#[32]⟩ : ByteArray)) ++ t148) ++ (⟨#[10]⟩ : ByteArray)).size ≤ 9223372036854775807 then (spec_l01Boats.l0 k1 l0 (x3_1 ++ (((((((((((t143 ++ (⟨#[44]⟩ : ByteArray)) ++ t144) ++ (⟨#[32]⟩ : ByteArray)) ++ t145) ++ (⟨#[32]⟩ : ByteArray)) ++ t146) ++ (⟨#[32]⟩ : ByteArray)) ++ t147) ++ (⟨#[32]⟩ : ByteArray)) ++ t148) ++ (⟨#[10]⟩ : ByteArray))) (wrap64 (x4_1 + 1))) else (none)) else (none)) else (none)) = some r := H
                            have A18 := Aside0.mk A180
                            clear A180
                            by_cases c19 : (((((((((t143 ++ (⟨#[44]⟩ : ByteArray)) ++ t144) ++ (⟨#[32]⟩ : ByteArray)) ++ t145) ++ (⟨#[32]⟩ : ByteArray)) ++ t146) ++ (⟨#[32]⟩ : ByteArray)) ++ t147) ++ (⟨#[32]⟩ : ByteArray)).size + t148.size ≤ 9223372036854775807
                            · rw [if_pos c19] at H
                              have c19b0 := eq_true c19
                              have c19b1 : decide ((((((((((t143 ++ (⟨#[44]⟩ : ByteArray)) ++ t144) ++ (⟨#[32]⟩ : ByteArray)) ++ t145) ++ (⟨#[32]⟩ : ByteArray)) ++ t146) ++ (⟨#[32]⟩ : ByteArray)) ++ t147) ++ (⟨#[32]⟩ : ByteArray)).size + t148.size ≤ 9223372036854775807) = true := decide_eq_true c19
                              try have c19b2 : (9223372036854775807 < (((((((((t143 ++ (⟨#[44]⟩ : ByteArray)) ++ t144) ++ (⟨#[32]⟩ : ByteArray)) ++ t145) ++ (⟨#[32]⟩ : ByteArray)) ++ t146) ++ (⟨#[32]⟩ : ByteArray)) ++ t147) ++ (⟨#[32]⟩ : ByteArray)).size + t148.size) = False := eq_false (Nat.not_lt.2 c19)
                              try have c19b3 : (9223372036854775807 < t143.size + 1 + t144.size + 1 + t145.size + 1 + t146.size + 1 + t147.size + 1 + t148.size) = False := by have h_ := c19; simp only [ByteArray.size_append] at h_; exact eq_false (Nat.not_lt.2 h_)
                              by_cases c20 : ((((((((((t143 ++ (⟨#[44]⟩ : ByteArray)) ++ t144) ++ (⟨#[32]⟩ : ByteArray)) ++ t145) ++ (⟨#[32]⟩ : ByteArray)) ++ t146) ++ (⟨#[32]⟩ : ByteArray)) ++ t147) ++ (⟨#[32]⟩ : ByteArray)) ++ t148).size + 1 ≤ 9223372036854775807
                              · rw [if_pos c20] at H
                                have c20b0 := eq_true c20
                                have c20b1 : decide (((((((((((t143 ++ (⟨#[44]⟩ : ByteArray)) ++ t144) ++ (⟨#[32]⟩ : ByteArray)) ++ t145) ++ (⟨#[32]⟩ : ByteArray)) ++ t146) ++ (⟨#[32]⟩ : ByteArray)) ++ t147) ++ (⟨#[32]⟩ : ByteArray)) ++ t148).size + 1 ≤ 9223372036854775807) = true := decide_eq_true c20
                                try have c20b2 : (9223372036854775807 < ((((((((((t143 ++ (⟨#[44]⟩ : ByteArray)) ++ t144) ++ (⟨#[32]⟩ : ByteArray)) ++ t145) ++ (⟨#[32]⟩ : ByteArray)) ++ t146) ++ (⟨#[32]⟩ : ByteArray)) ++ t147) ++ (⟨#[32]⟩ : ByteArray)) ++ t148).size + 1) = False := eq_false (Nat.not_lt.2 c20)
                                try have c20b3 : (9223372036854775807 < t143.size + 1 + t144.size + 1 + t145.size + 1 + t146.size + 1 + t147.size + 1 + t148.size + 1) = False := by have h_ := c20; simp only [ByteArray.size_append] at h_; exact eq_false (Nat.not_lt.2 h_)
                                by_cases c21 : x3_1.size + (((((((((((t143 ++ (⟨#[44]⟩ : ByteArray)) ++ t144) ++ (⟨#[32]⟩ : ByteArray)) ++ t145) ++ (⟨#[32]⟩ : ByteArray)) ++ t146) ++ (⟨#[32]⟩ : ByteArray)) ++ t147) ++ (⟨#[32]⟩ : ByteArray)) ++ t148) ++ (⟨#[10]⟩ : ByteArray)).size ≤ 9223372036854775807
                                · rw [if_pos c21] at H
                                  have c21b0 := eq_true c21
                                  have c21b1 : decide (x3_1.size + (((((((((((t143 ++ (⟨#[44]⟩ : ByteArray)) ++ t144) ++ (⟨#[32]⟩ : ByteArray)) ++ t145) ++ (⟨#[32]⟩ : ByteArray)) ++ t146) ++ (⟨#[32]⟩ : ByteArray)) ++ t147) ++ (⟨#[32]⟩ : ByteArray)) ++ t148) ++ (⟨#[10]⟩ : ByteArray)).size ≤ 9223372036854775807) = true := decide_eq_true c21
                                  try have c21b2 : (9223372036854775807 < x3_1.size + (((((((((((t143 ++ (⟨#[44]⟩ : ByteArray)) ++ t144) ++ (⟨#[32]⟩ : ByteArray)) ++ t145) ++ (⟨#[32]⟩ : ByteArray)) ++ t146) ++ (⟨#[32]⟩ : ByteArray)) ++ t147) ++ (⟨#[32]⟩ : ByteArray)) ++ t148) ++ (⟨#[10]⟩ : ByteArray)).size) = False := eq_false (Nat.not_lt.2 c21)
                                  try have c21b3 : (9223372036854775807 < x3_1.size + (t143.size + 1 + t144.size + 1 + t145.size + 1 + t146.size + 1 + t147.size + 1 + t148.size + 1)) = False := by have h_ := c21; simp only [ByteArray.size_append] at h_; exact eq_false (Nat.not_lt.2 h_)
                                  have H' := Aside0.mk H
                                  clear H
                                  have p141 : 0 ≤ (x4_1 : Int) := of_decide_eq_true (by first | (with_reducible assumption) | assumption)
                                  have q141 : x4_1 < (l0.length : Int) := of_decide_eq_true (by first | (with_reducible assumption) | assumption)
                                  obtain ⟨ad141, e141, hx141_0, hx141_1, hx141_2, hx141_3, hx141_4, hx141_5⟩ := at_T59 HR0.out x4_1 p141 q141
                                  cases e141
                                  replace hx141_0 := (HB.out.cell (World.block_lt_of_cell? w _ hx141_0)).trans hx141_0
                                  replace hx141_1 := (HB.out.cell (World.block_lt_of_cell? w _ hx141_1)).trans hx141_1
                                  replace hx141_2 := (HB.out.cell (World.block_lt_of_cell? w _ hx141_2)).trans hx141_2
                                  replace hx141_3 := (HB.out.cell (World.block_lt_of_cell? w _ hx141_3)).trans hx141_3
                                  replace hx141_4 := (HB.out.cell (World.block_lt_of_cell? w _ hx141_4)).trans hx141_4
                                  replace hx141_5 := (HB.out.cell (World.block_lt_of_cell? w _ hx141_5)).trans hx141_5
                                  replace p141 := eq_true p141
                                  replace q141 := eq_true q141
                                  try go_wp2_with (first | ((with_reducible refine gate_dst (N := 5) rfl ?_); refine box_event ?hg (N := 5) ?hd (cs := #[.int .i8 0, .int .i8 0, .int .i8 0, .int .i8 0, .int .i8 0, .int .i8 0]) (t := 59) ?hr ?_; (case hd => rfl); (case hg => rfl); (case hr => first | (go_simp; done) | (go_simp; rfl)); intro gb142 hg w22 hbox hb; have n0_ := Aside0.mk (below_step (by repeat (first | (with_reducible first | exact HB.out | apply below_alloc | apply pw_below_drewN | apply below_drew1) | exact HB.out)) hb); have n1_ := Aside0.mk (hbox); have n2_ := Aside0.mk ((by rw [hg]; exact (below_size (by repeat (first | (with_reducible first | exact HB.out | apply below_alloc | apply pw_below_drewN | apply below_drew1) | exact HB.out))) : w.heap.size ≤ gb142)); have n3_ := Aside0.mk ((by rw [hg]; exact (below_size (by repeat (first | (with_reducible first | exact HB.out | apply below_alloc | apply pw_below_drewN | apply below_drew1) | exact HB.out))) : w.heap.size ≤ gb142)); clear HB; have HB := n0_; have BK142 := n1_; have GW142 := n2_; have GE142 := n3_; clear n0_ n1_ n2_ n3_; clear hb hbox hg; have hcz23_0 : w22.cell? ⟨gb142, 0, none⟩ = some (.int .i8 0) := (blk_cell BK142.out 0).trans rfl; have hcz23_1 : w22.cell? ⟨gb142, 1, none⟩ = some (.int .i8 0) := (blk_cell BK142.out 1).trans rfl; have hcz23_2 : w22.cell? ⟨gb142, 2, none⟩ = some (.int .i8 0) := (blk_cell BK142.out 2).trans rfl; have hcz23_3 : w22.cell? ⟨gb142, 3, none⟩ = some (.int .i8 0) := (blk_cell BK142.out 3).trans rfl; have hcz23_4 : w22.cell? ⟨gb142, 4, none⟩ = some (.int .i8 0) := (blk_cell BK142.out 4).trans rfl; have hcz23_5 : w22.cell? ⟨gb142, 5, none⟩ = some (.int .i8 0) := (blk_cell BK142.out 5).trans rfl; have hfz23_0 := blk_frozen BK142.out 0; have hfz23_1 := blk_frozen BK142.out 1; have hfz23_2 := blk_frozen BK142.out 2; have hfz23_3 := blk_frozen BK142.out 3; have hfz23_4 := blk_frozen BK142.out 4; have hfz23_5 := blk_frozen BK142.out 5))
                                  have n0_ : Aside0 (((((((w22.setCell ⟨gb142, 0, none⟩ (.int .i8 ((rd_T59 l0 x4_1).f0.f0))).setCell ⟨gb142, 1, none⟩ (.int .i8 ((rd_T59 l0 x4_1).f0.f1))).setCell ⟨gb142, 2, none⟩ (.int .i8 ((rd_T59 l0 x4_1).f1))).setCell ⟨gb142, 3, none⟩ (.int .i8 ((rd_T59 l0 x4_1).f2))).setCell ⟨gb142, 4, none⟩ (.int .i8 ((rd_T59 l0 x4_1).f3))).setCell ⟨gb142, 5, none⟩ (.int .i8 ((rd_T59 l0 x4_1).f4))).heap[gb142]? = some (.cells #[.int .i8 ((rd_T59 l0 x4_1).f0.f0), .int .i8 ((rd_T59 l0 x4_1).f0.f1), .int .i8 ((rd_T59 l0 x4_1).f1), .int .i8 ((rd_T59 l0 x4_1).f2), .int .i8 ((rd_T59 l0 x4_1).f3), .int .i8 ((rd_T59 l0 x4_1).f4)] 59 (0, 0))) := ⟨by (with_reducible repeat (first | refine blk_drewN ?_ _ | refine blk_drew ?_ | refine blk_alloc ?_ _)); refine blk_put (cs := #[.int .i8 ((rd_T59 l0 x4_1).f0.f0), .int .i8 ((rd_T59 l0 x4_1).f0.f1), .int .i8 ((rd_T59 l0 x4_1).f1), .int .i8 ((rd_T59 l0 x4_1).f2), .int .i8 ((rd_T59 l0 x4_1).f3), .int .i8 0]) ?_ 5 _ rfl; (with_reducible repeat (first | refine blk_drewN ?_ _ | refine blk_drew ?_ | refine blk_alloc ?_ _)); refine blk_put (cs := #[.int .i8 ((rd_T59 l0 x4_1).f0.f0), .int .i8 ((rd_T59 l0 x4_1).f0.f1), .int .i8 ((rd_T59 l0 x4_1).f1), .int .i8 ((rd_T59 l0 x4_1).f2), .int .i8 0, .int .i8 0]) ?_ 4 _ rfl; (with_reducible repeat (first | refine blk_drewN ?_ _ | refine blk_drew ?_ | refine blk_alloc ?_ _)); refine blk_put (cs := #[.int .i8 ((rd_T59 l0 x4_1).f0.f0), .int .i8 ((rd_T59 l0 x4_1).f0.f1), .int .i8 ((rd_T59 l0 x4_1).f1), .int .i8 0, .int .i8 0, .int .i8 0]) ?_ 3 _ rfl; (with_reducible repeat (first | refine blk_drewN ?_ _ | refine blk_drew ?_ | refine blk_alloc ?_ _)); refine blk_put (cs := #[.int .i8 ((rd_T59 l0 x4_1).f0.f0), .int .i8 ((rd_T59 l0 x4_1).f0.f1), .int .i8 0, .int .i8 0, .int .i8 0, .int .i8 0]) ?_ 2 _ rfl; (with_reducible repeat (first | refine blk_drewN ?_ _ | refine blk_drew ?_ | refine blk_alloc ?_ _)); refine blk_put (cs := #[.int .i8 ((rd_T59 l0 x4_1).f0.f0), .int .i8 0, .int .i8 0, .int .i8 0, .int .i8 0, .int .i8 0]) ?_ 1 _ rfl; (with_reducible repeat (first | refine blk_drewN ?_ _ | refine blk_drew ?_ | refine blk_alloc ?_ _)); refine blk_put (cs := #[.int .i8 0, .int .i8 0, .int .i8 0, .int .i8 0, .int .i8 0, .int .i8 0]) ?_ 0 _ rfl; (with_reducible repeat (first | refine blk_drewN ?_ _ | refine blk_drew ?_ | refine blk_alloc ?_ _)); exact BK142.out⟩
                                  have n1_ : Aside0 (Below w.heap.size w ((((((w22.setCell ⟨gb142, 0, none⟩ (.int .i8 ((rd_T59 l0 x4_1).f0.f0))).setCell ⟨gb142, 1, none⟩ (.int .i8 ((rd_T59 l0 x4_1).f0.f1))).setCell ⟨gb142, 2, none⟩ (.int .i8 ((rd_T59 l0 x4_1).f1))).setCell ⟨gb142, 3, none⟩ (.int .i8 ((rd_T59 l0 x4_1).f2))).setCell ⟨gb142, 4, none⟩ (.int .i8 ((rd_T59 l0 x4_1).f3))).setCell ⟨gb142, 5, none⟩ (.int .i8 ((rd_T59 l0 x4_1).f4)))) := ⟨by repeat (first | (with_reducible first | exact HB.out | apply below_alloc | apply pw_below_drewN | apply below_drew1 | refine below_set ?_ GE142.out) | exact HB.out)⟩
                                  (try clear BK142)
                                  (try clear HB)
                                  generalize ((((((w22.setCell ⟨gb142, 0, none⟩ (.int .i8 ((rd_T59 l0 x4_1).f0.f0))).setCell ⟨gb142, 1, none⟩ (.int .i8 ((rd_T59 l0 x4_1).f0.f1))).setCell ⟨gb142, 2, none⟩ (.int .i8 ((rd_T59 l0 x4_1).f1))).setCell ⟨gb142, 3, none⟩ (.int .i8 ((rd_T59 l0 x4_1).f2))).setCell ⟨gb142, 4, none⟩ (.int .i8 ((rd_T59 l0 x4_1).f3))).setCell ⟨gb142, 5, none⟩ (.int .i8 ((rd_T59 l0 x4_1).f4))) = w24 at n0_ n1_ ⊢
                                  have BK142 := n0_
                                  have HB := n1_
                                  clear n0_ n1_
                                  have n0_ := Aside0.mk (blk_drew BK142.out)
                                  have n1_ := Aside0.mk (below_drew1 HB.out)
                                  clear BK142
                                  clear HB
                                  have BK142 := n0_
                                  have HB := n1_
                                  clear n0_ n1_
                                  refine start_ (n := 40) (S := fun w' => w'.cell? ⟨gb142, 0, none⟩ = some (.int .i8 ((rd_T59 l0 x4_1).f0.f0)) ∧ w'.cell? ⟨gb142, 1, none⟩ = some (.int .i8 ((rd_T59 l0 x4_1).f0.f1)) ∧ w'.cell? ⟨gb142, 2, none⟩ = some (.int .i8 ((rd_T59 l0 x4_1).f1)) ∧ w'.cell? ⟨gb142, 3, none⟩ = some (.int .i8 ((rd_T59 l0 x4_1).f2)) ∧ w'.cell? ⟨gb142, 4, none⟩ = some (.int .i8 ((rd_T59 l0 x4_1).f3)) ∧ w'.cell? ⟨gb142, 5, none⟩ = some (.int .i8 ((rd_T59 l0 x4_1).f4))) (ds := []) #[false, false, false, false, false, false, false, false, false, false, false, false, false, false, false, false, false, false, false, false, false, false, false, false, false, false, false, false, false, false, false, false, false, false, false, false, false, false, false, false] (by kernel_rfl) rfl rfl ⟨(blk_cell BK142.out 0).trans rfl, (blk_cell BK142.out 1).trans rfl, (blk_cell BK142.out 2).trans rfl, (blk_cell BK142.out 3).trans rfl, (blk_cell BK142.out 4).trans rfl, (blk_cell BK142.out 5).trans rfl⟩ (fun hHeld => ?_); refine with_tabW spec_l01Boats.tab6 spec_l01Boats.bits6 (fun HT_ HW_ => ?_)
                                  generalize w24.drew = w25 at BK142 HB hHeld ⊢
                                  refine pure_ (i := 0) (N := some 16) (v := ?_) (a' := ?_) #[true, false, false, false, false, false, false, false, false, false, false, false, false, false, false, false, false, false, false, false, false, false, false, false, false, false, false, false, false, false, false, false, false, false, false, false, false, false, false, false] rfl rfl (any_of HT_.out (by kernel_rfl)) (fun _ _ _ h => h) (Or.inl ⟨by rfl, ?_⟩) ?_ ?_
                                  rotate_left
                                  · intro w'
                                    go_simp
                                    with_reducible rfl
                                  rotate_left
                                  · simp only [Act.put, List.setIfInBounds_toArray, List.set_cons_zero, List.set_cons_succ, i64_w, i32_w]
                                    rfl
                                  refine pure_ (i := 1) (N := some 17) (v := ?_) (a' := ?_) #[true, true, false, false, false, false, false, false, false, false, false, false, false, false, false, false, false, false, false, false, false, false, false, false, false, false, false, false, false, false, false, false, false, false, false, false, false, false, false, false] rfl rfl (any_of HT_.out (by kernel_rfl)) (fun _ _ _ h => h) (Or.inl ⟨by rfl, ?_⟩) ?_ ?_
                                  rotate_left
                                  · intro w'
                                    go_simp
                                    with_reducible rfl
                                  rotate_left
                                  · simp only [Act.put, List.setIfInBounds_toArray, List.set_cons_zero, List.set_cons_succ, i64_w, i32_w]
                                    rfl
                                  refine pure_ (i := 2) (N := some 18) (v := ?_) (a' := ?_) #[true, true, true, false, false, false, false, false, false, false, false, false, false, false, false, false, false, false, false, false, false, false, false, false, false, false, false, false, false, false, false, false, false, false, false, false, false, false, false, false] rfl rfl (any_of HT_.out (by kernel_rfl)) (fun _ _ _ h => h) (Or.inl ⟨by rfl, ?_⟩) ?_ ?_
                                  rotate_left
                                  · intro w'
                                    go_simp
                                    with_reducible rfl
                                  rotate_left
                                  · simp only [Act.put, List.setIfInBounds_toArray, List.set_cons_zero, List.set_cons_succ, i64_w, i32_w]
                                    rfl
                                  refine pure_ (i := 7) (N := some 23) (v := ?_) (a' := ?_) #[true, true, true, false, false, false, false, true, false, false, false, false, false, false, false, false, false, false, false, false, false, false, false, false, false, false, false, false, false, false, false, false, false, false, false, false, false, false, false, false] rfl rfl (any_of HT_.out (by kernel_rfl)) (fun _ _ _ h => h) (Or.inl ⟨by rfl, ?_⟩) ?_ ?_
                                  rotate_left
                                  · intro w'
                                    go_simp
                                    with_reducible rfl
                                  rotate_left
                                  · simp only [Act.put, List.setIfInBounds_toArray, List.set_cons_zero, List.set_cons_succ, i64_w, i32_w]
                                    rfl
                                  refine pure_ (i := 8) (N := some 24) (v := ?_) (a' := ?_) #[true, true, true, false, false, false, false, true, true, false, false, false, false, false, false, false, false, false, false, false, false, false, false, false, false, false, false, false, false, false, false, false, false, false, false, false, false, false, false, false] rfl rfl (any_of HT_.out (by kernel_rfl)) (fun _ _ _ h => h) (Or.inl ⟨by rfl, ?_⟩) ?_ ?_
                                  rotate_left
                                  · intro w'
                                    go_simp
                                    with_reducible rfl
                                  rotate_left
                                  · simp only [Act.put, List.setIfInBounds_toArray, List.set_cons_zero, List.set_cons_succ, i64_w, i32_w]
                                    rfl
                                  refine pure_ (i := 14) (N := some 30) (v := ?_) (a' := ?_) #[true, true, true, false, false, false, false, true, true, false, false, false, false, false, true, false, false, false, false, false, false, false, false, false, false, false, false, false, false, false, false, false, false, false, false, false, false, false, false, false] rfl rfl (any_of HT_.out (by kernel_rfl)) (fun _ _ _ h => h) (Or.inl ⟨by rfl, ?_⟩) ?_ ?_
                                  rotate_left
                                  · intro w'
                                    go_simp
                                    with_reducible rfl
                                  rotate_left
                                  · simp only [Act.put, List.setIfInBounds_toArray, List.set_cons_zero, List.set_cons_succ, i64_w, i32_w]
                                    rfl
                                  refine pure_ (i := 20) (N := some 36) (v := ?_) (a' := ?_) #[true, true, true, false, false, false, false, true, true, false, false, false, false, false, true, false, false, false, false, false, true, false, false, false, false, false, false, false, false, false, false, false, false, false, false, false, false, false, false, false] rfl rfl (any_of HT_.out (by kernel_rfl)) (fun _ _ _ h => h) (Or.inl ⟨by rfl, ?_⟩) ?_ ?_
                                  rotate_left
                                  · intro w'
                                    go_simp
                                    with_reducible rfl
                                  rotate_left
                                  · simp only [Act.put, List.setIfInBounds_toArray, List.set_cons_zero, List.set_cons_succ, i64_w, i32_w]
                                    rfl
                                  refine pure_ (i := 26) (N := some 42) (v := ?_) (a' := ?_) #[true, true, true, false, false, false, false, true, true, false, false, false, false, false, true, false, false, false, false, false, true, false, false, false, false, false, true, false, false, false, false, false, false, false, false, false, false, false, false, false] rfl rfl (any_of HT_.out (by kernel_rfl)) (fun _ _ _ h => h) (Or.inl ⟨by rfl, ?_⟩) ?_ ?_
                                  rotate_left
                                  · intro w'
                                    go_simp
                                    with_reducible rfl
                                  rotate_left
                                  · simp only [Act.put, List.setIfInBounds_toArray, List.set_cons_zero, List.set_cons_succ, i64_w, i32_w]
                                    rfl
                                  refine pure_ (i := 32) (N := some 48) (v := ?_) (a' := ?_) #[true, true, true, false, false, false, false, true, true, false, false, false, false, false, true, false, false, false, false, false, true, false, false, false, false, false, true, false, false, false, false, false, true, false, false, false, false, false, false, false] rfl rfl (any_of HT_.out (by kernel_rfl)) (fun _ _ _ h => h) (Or.inl ⟨by rfl, ?_⟩) ?_ ?_
                                  rotate_left
                                  · intro w'
                                    go_simp
                                    with_reducible rfl
                                  rotate_left
                                  · simp only [Act.put, List.setIfInBounds_toArray, List.set_cons_zero, List.set_cons_succ, i64_w, i32_w]
                                    rfl
                                  refine take_ (i := 3) (N := some 19) (v := ?_) (a' := ?_) #[true, true, true, true, false, false, false, true, true, false, false, false, false, false, true, false, false, false, false, false, true, false, false, false, false, false, true, false, false, false, false, false, true, false, false, false, false, false, false, false] rfl rfl (take_ofW HT_.out HW_.out (by kernel_rfl)) (fun _ _ _ h => h) (Or.inl ⟨by rfl, ?_⟩) hHeld ?_ ?_
                                  rotate_left
                                  · rintro w' ⟨s0, s1, s2, s3, s4, s5⟩
                                    go_simp
                                    with_reducible rfl
                                  rotate_left
                                  · simp only [Act.put, List.setIfInBounds_toArray, List.set_cons_zero, List.set_cons_succ, i64_w, i32_w]
                                    rfl
                                  refine pure_ (i := 4) (N := some 20) (v := ?_) (a' := ?_) #[true, true, true, true, true, false, false, true, true, false, false, false, false, false, true, false, false, false, false, false, true, false, false, false, false, false, true, false, false, false, false, false, true, false, false, false, false, false, false, false] rfl rfl (any_of HT_.out (by kernel_rfl)) (fun _ _ _ h => h) (Or.inl ⟨by rfl, ?_⟩) ?_ ?_
                                  rotate_left
                                  · intro w'
                                    go_simp
                                    with_reducible rfl
                                  rotate_left
                                  · simp only [Act.put, List.setIfInBounds_toArray, List.set_cons_zero, List.set_cons_succ, i64_w, i32_w]
                                    rfl
                                  refine take_ (i := 9) (N := some 25) (v := ?_) (a' := ?_) #[true, true, true, true, true, false, false, true, true, true, false, false, false, false, true, false, false, false, false, false, true, false, false, false, false, false, true, false, false, false, false, false, true, false, false, false, false, false, false, false] rfl rfl (take_ofW HT_.out HW_.out (by kernel_rfl)) (fun _ _ _ h => h) (Or.inl ⟨by rfl, ?_⟩) hHeld ?_ ?_
                                  rotate_left
                                  · rintro w' ⟨s0, s1, s2, s3, s4, s5⟩
                                    go_simp
                                    with_reducible rfl
                                  rotate_left
                                  · simp only [Act.put, List.setIfInBounds_toArray, List.set_cons_zero, List.set_cons_succ, i64_w, i32_w]
                                    rfl
                                  refine pure_ (i := 10) (N := some 26) (v := ?_) (a' := ?_) #[true, true, true, true, true, false, false, true, true, true, true, false, false, false, true, false, false, false, false, false, true, false, false, false, false, false, true, false, false, false, false, false, true, false, false, false, false, false, false, false] rfl rfl (any_of HT_.out (by kernel_rfl)) (fun _ _ _ h => h) (Or.inl ⟨by rfl, ?_⟩) ?_ ?_
                                  rotate_left
                                  · intro w'
                                    go_simp
                                    with_reducible rfl
                                  rotate_left
                                  · simp only [Act.put, List.setIfInBounds_toArray, List.set_cons_zero, List.set_cons_succ, i64_w, i32_w]
                                    rfl
                                  refine take_ (i := 15) (N := some 31) (v := ?_) (a' := ?_) #[true, true, true, true, true, false, false, true, true, true, true, false, false, false, true, true, false, false, false, false, true, false, false, false, false, false, true, false, false, false, false, false, true, false, false, false, false, false, false, false] rfl rfl (take_ofW HT_.out HW_.out (by kernel_rfl)) (fun _ _ _ h => h) (Or.inl ⟨by rfl, ?_⟩) hHeld ?_ ?_
                                  rotate_left
                                  · rintro w' ⟨s0, s1, s2, s3, s4, s5⟩
                                    go_simp
                                    with_reducible rfl
                                  rotate_left
                                  · simp only [Act.put, List.setIfInBounds_toArray, List.set_cons_zero, List.set_cons_succ, i64_w, i32_w]
                                    rfl
                                  refine pure_ (i := 16) (N := some 32) (v := ?_) (a' := ?_) #[true, true, true, true, true, false, false, true, true, true, true, false, false, false, true, true, true, false, false, false, true, false, false, false, false, false, true, false, false, false, false, false, true, false, false, false, false, false, false, false] rfl rfl (any_of HT_.out (by kernel_rfl)) (fun _ _ _ h => h) (Or.inl ⟨by rfl, ?_⟩) ?_ ?_
                                  rotate_left
                                  · intro w'
                                    go_simp
                                    with_reducible rfl
                                  rotate_left
                                  · simp only [Act.put, List.setIfInBounds_toArray, List.set_cons_zero, List.set_cons_succ, i64_w, i32_w]
                                    rfl
                                  refine take_ (i := 21) (N := some 37) (v := ?_) (a' := ?_) #[true, true, true, true, true, false, false, true, true, true, true, false, false, false, true, true, true, false, false, false, true, true, false, false, false, false, true, false, false, false, false, false, true, false, false, false, false, false, false, false] rfl rfl (take_ofW HT_.out HW_.out (by kernel_rfl)) (fun _ _ _ h => h) (Or.inl ⟨by rfl, ?_⟩) hHeld ?_ ?_
                                  rotate_left
                                  · rintro w' ⟨s0, s1, s2, s3, s4, s5⟩
                                    go_simp
                                    with_reducible rfl
                                  rotate_left
                                  · simp only [Act.put, List.setIfInBounds_toArray, List.set_cons_zero, List.set_cons_succ, i64_w, i32_w]
                                    rfl
                                  refine pure_ (i := 22) (N := some 38) (v := ?_) (a' := ?_) #[true, true, true, true, true, false, false, true, true, true, true, false, false, false, true, true, true, false, false, false, true, true, true, false, false, false, true, false, false, false, false, false, true, false, false, false, false, false, false, false] rfl rfl (any_of HT_.out (by kernel_rfl)) (fun _ _ _ h => h) (Or.inl ⟨by rfl, ?_⟩) ?_ ?_
                                  rotate_left
                                  · intro w'
                                    go_simp
                                    with_reducible rfl
                                  rotate_left
                                  · simp only [Act.put, List.setIfInBounds_toArray, List.set_cons_zero, List.set_cons_succ, i64_w, i32_w]
                                    rfl
                                  refine take_ (i := 27) (N := some 43) (v := ?_) (a' := ?_) #[true, true, true, true, true, false, false, true, true, true, true, false, false, false, true, true, true, false, false, false, true, true, true, false, false, false, true, true, false, false, false, false, true, false, false, false, false, false, false, false] rfl rfl (take_ofW HT_.out HW_.out (by kernel_rfl)) (fun _ _ _ h => h) (Or.inl ⟨by rfl, ?_⟩) hHeld ?_ ?_
                                  rotate_left
                                  · rintro w' ⟨s0, s1, s2, s3, s4, s5⟩
                                    go_simp
                                    with_reducible rfl
                                  rotate_left
                                  · simp only [Act.put, List.setIfInBounds_toArray, List.set_cons_zero, List.set_cons_succ, i64_w, i32_w]
                                    rfl
                                  refine pure_ (i := 28) (N := some 44) (v := ?_) (a' := ?_) #[true, true, true, true, true, false, false, true, true, true, true, false, false, false, true, true, true, false, false, false, true, true, true, false, false, false, true, true, true, false, false, false, true, false, false, false, false, false, false, false] rfl rfl (any_of HT_.out (by kernel_rfl)) (fun _ _ _ h => h) (Or.inl ⟨by rfl, ?_⟩) ?_ ?_
                                  rotate_left
                                  · intro w'
                                    go_simp
                                    with_reducible rfl
                                  rotate_left
                                  · simp only [Act.put, List.setIfInBounds_toArray, List.set_cons_zero, List.set_cons_succ, i64_w, i32_w]
                                    rfl
                                  refine take_ (i := 33) (N := some 49) (v := ?_) (a' := ?_) #[true, true, true, true, true, false, false, true, true, true, true, false, false, false, true, true, true, false, false, false, true, true, true, false, false, false, true, true, true, false, false, false, true, true, false, false, false, false, false, false] rfl rfl (take_ofW HT_.out HW_.out (by kernel_rfl)) (fun _ _ _ h => h) (Or.inl ⟨by rfl, ?_⟩) hHeld ?_ ?_
                                  rotate_left
                                  · rintro w' ⟨s0, s1, s2, s3, s4, s5⟩
                                    go_simp
                                    with_reducible rfl
                                  rotate_left
                                  · simp only [Act.put, List.setIfInBounds_toArray, List.set_cons_zero, List.set_cons_succ, i64_w, i32_w]
                                    rfl
                                  refine pure_ (i := 34) (N := some 50) (v := ?_) (a' := ?_) #[true, true, true, true, true, false, false, true, true, true, true, false, false, false, true, true, true, false, false, false, true, true, true, false, false, false, true, true, true, false, false, false, true, true, true, false, false, false, false, false] rfl rfl (any_of HT_.out (by kernel_rfl)) (fun _ _ _ h => h) (Or.inl ⟨by rfl, ?_⟩) ?_ ?_
                                  rotate_left
                                  · intro w'
                                    go_simp
                                    with_reducible rfl
                                  rotate_left
                                  · simp only [Act.put, List.setIfInBounds_toArray, List.set_cons_zero, List.set_cons_succ, i64_w, i32_w]
                                    rfl
                                  refine one_ (i := 5) (N := some 21) #[true, true, true, true, true, true, false, true, true, true, true, false, false, false, true, true, true, false, false, false, true, true, true, false, false, false, true, true, true, false, false, false, true, true, true, false, false, false, false, false] rfl rfl (one_of HT_.out (by kernel_rfl)) (by decide) (fun K hK => ?_)
                                  refine goes_ Tryd.func46 (by kernel_rfl) rfl #[.int .i64 (wrap64 ((rd_T59 l0 x4_1).f0.f0))] (by rfl) rfl rfl (by (try simp only [List.map_toArray, List.map_cons, List.map_nil]); first | done | rfl | (simp only [List.length_drop, List.length_take]; rfl)) ?_
                                  with_reducible refine (spec_Decimal.calls k1 (wrap64 ((rd_T59 l0 x4_1).f0.f0)) t143 _ A4.out).mono ?_
                                  rintro e w26 ⟨rfl, hb⟩
                                  refine ⟨_, rfl, ?_⟩
                                  have n0_ := Aside0.mk (blk_below (g := gb142) (o := .cells #[.int .i8 ((rd_T59 l0 x4_1).f0.f0), .int .i8 ((rd_T59 l0 x4_1).f0.f1), .int .i8 ((rd_T59 l0 x4_1).f1), .int .i8 ((rd_T59 l0 x4_1).f2), .int .i8 ((rd_T59 l0 x4_1).f3), .int .i8 ((rd_T59 l0 x4_1).f4)] 59 (0, 0)) (by (with_reducible repeat (first | refine blk_drewN ?_ _ | refine blk_drew ?_ | refine blk_alloc ?_ _)); exact BK142.out) hb)
                                  have n1_ := Aside0.mk (below_step (by repeat (first | (with_reducible first | exact HB.out | apply below_alloc | apply pw_below_drewN | apply below_drew1 | refine below_set ?_ GE142.out) | exact HB.out)) hb)
                                  clear BK142
                                  clear HB
                                  have BK142 := n0_
                                  have HB := n1_
                                  clear n0_ n1_
                                  (try clear hb)
                                  (try clear hb2)
                                  (try clear hk)
                                  (try clear hi)
                                  refine hK.out _ _ ⟨(blk_cell BK142.out 0).trans rfl, (blk_cell BK142.out 1).trans rfl, (blk_cell BK142.out 2).trans rfl, (blk_cell BK142.out 3).trans rfl, (blk_cell BK142.out 4).trans rfl, (blk_cell BK142.out 5).trans rfl⟩ (fun hHeld => ?_)
                                  clear hK K
                                  refine norm_ (a' := ?_) ?_ ?_
                                  rotate_left
                                  · show Act.put _ (some 21) _ = _
                                    simp only [Act.put, List.setIfInBounds_toArray, List.set_cons_zero, List.set_cons_succ, i64_w, i32_w]
                                    rfl
                                  refine pure_ (i := 6) (N := some 22) (v := ?_) (a' := ?_) #[true, true, true, true, true, true, true, true, true, true, true, false, false, false, true, true, true, false, false, false, true, true, true, false, false, false, true, true, true, false, false, false, true, true, true, false, false, false, false, false] rfl rfl (any_of HT_.out (by kernel_rfl)) (fun _ _ _ h => h) (Or.inl ⟨by rfl, ?_⟩) ?_ ?_
                                  rotate_left
                                  · intro w'
                                    go_simp
                                    with_reducible rfl
                                  rotate_left
                                  · simp only [Act.put, List.setIfInBounds_toArray, List.set_cons_zero, List.set_cons_succ, i64_w, i32_w]
                                    rfl
                                  refine one_ (i := 11) (N := some 27) #[true, true, true, true, true, true, true, true, true, true, true, true, false, false, true, true, true, false, false, false, true, true, true, false, false, false, true, true, true, false, false, false, true, true, true, false, false, false, false, false] rfl rfl (one_of HT_.out (by kernel_rfl)) (by decide) (fun K hK => ?_)
                                  refine goes_ Tryd.func46 (by kernel_rfl) rfl #[.int .i64 (wrap64 ((rd_T59 l0 x4_1).f0.f1))] (by rfl) rfl rfl (by (try simp only [List.map_toArray, List.map_cons, List.map_nil]); first | done | rfl | (simp only [List.length_drop, List.length_take]; rfl)) ?_
                                  with_reducible refine (spec_Decimal.calls k1 (wrap64 ((rd_T59 l0 x4_1).f0.f1)) t144 _ A6.out).mono ?_
                                  rintro e w27 ⟨rfl, hb⟩
                                  refine ⟨_, rfl, ?_⟩
                                  have n0_ := Aside0.mk (blk_below (g := gb142) (o := .cells #[.int .i8 ((rd_T59 l0 x4_1).f0.f0), .int .i8 ((rd_T59 l0 x4_1).f0.f1), .int .i8 ((rd_T59 l0 x4_1).f1), .int .i8 ((rd_T59 l0 x4_1).f2), .int .i8 ((rd_T59 l0 x4_1).f3), .int .i8 ((rd_T59 l0 x4_1).f4)] 59 (0, 0)) (by (with_reducible repeat (first | refine blk_drewN ?_ _ | refine blk_drew ?_ | refine blk_alloc ?_ _)); exact BK142.out) hb)
                                  have n1_ := Aside0.mk (below_step (by repeat (first | (with_reducible first | exact HB.out | apply below_alloc | apply pw_below_drewN | apply below_drew1 | refine below_set ?_ GE142.out) | exact HB.out)) hb)
                                  clear BK142
                                  clear HB
                                  have BK142 := n0_
                                  have HB := n1_
                                  clear n0_ n1_
                                  (try clear hb)
                                  (try clear hb2)
                                  (try clear hk)
                                  (try clear hi)
                                  refine hK.out _ _ ⟨(blk_cell BK142.out 0).trans rfl, (blk_cell BK142.out 1).trans rfl, (blk_cell BK142.out 2).trans rfl, (blk_cell BK142.out 3).trans rfl, (blk_cell BK142.out 4).trans rfl, (blk_cell BK142.out 5).trans rfl⟩ (fun hHeld => ?_)
                                  clear hK K
                                  refine norm_ (a' := ?_) ?_ ?_
                                  rotate_left
                                  · show Act.put _ (some 27) _ = _
                                    simp only [Act.put, List.setIfInBounds_toArray, List.set_cons_zero, List.set_cons_succ, i64_w, i32_w]
                                    rfl
                                  refine pure_ (i := 12) (N := some 28) (v := ?_) (a' := ?_) #[true, true, true, true, true, true, true, true, true, true, true, true, true, false, true, true, true, false, false, false, true, true, true, false, false, false, true, true, true, false, false, false, true, true, true, false, false, false, false, false] rfl rfl (any_of HT_.out (by kernel_rfl)) (fun _ _ _ h => h) (Or.inl ⟨by rfl, ?_⟩) ?_ ?_
                                  rotate_left
                                  · intro w'
                                    go_simp
                                    with_reducible rfl
                                  rotate_left
                                  · simp only [Act.put, List.setIfInBounds_toArray, List.set_cons_zero, List.set_cons_succ, i64_w, i32_w]
                                    rfl
                                  refine pure_ (i := 13) (N := some 29) (v := ?_) (a' := ?_) #[true, true, true, true, true, true, true, true, true, true, true, true, true, true, true, true, true, false, false, false, true, true, true, false, false, false, true, true, true, false, false, false, true, true, true, false, false, false, false, false] rfl rfl (any_of HT_.out (by kernel_rfl)) (fun _ _ _ h => h) (Or.inl ⟨by rfl, ?_⟩) ?_ ?_
                                  rotate_left
                                  · intro w'
                                    go_simp
                                    with_reducible rfl
                                  rotate_left
                                  · simp only [Act.put, List.setIfInBounds_toArray, List.set_cons_zero, List.set_cons_succ, i64_w, i32_w]
                                    rfl
                                  refine one_ (i := 17) (N := some 33) #[true, true, true, true, true, true, true, true, true, true, true, true, true, true, true, true, true, true, false, false, true, true, true, false, false, false, true, true, true, false, false, false, true, true, true, false, false, false, false, false] rfl rfl (one_of HT_.out (by kernel_rfl)) (by decide) (fun K hK => ?_)
                                  refine goes_ Tryd.func46 (by kernel_rfl) rfl #[.int .i64 (wrap64 ((rd_T59 l0 x4_1).f1))] (by rfl) rfl rfl (by (try simp only [List.map_toArray, List.map_cons, List.map_nil]); first | done | rfl | (simp only [List.length_drop, List.length_take]; rfl)) ?_
                                  with_reducible refine (spec_Decimal.calls k1 (wrap64 ((rd_T59 l0 x4_1).f1)) t145 _ A9.out).mono ?_
                                  rintro e w28 ⟨rfl, hb⟩
                                  refine ⟨_, rfl, ?_⟩
                                  have n0_ := Aside0.mk (blk_below (g := gb142) (o := .cells #[.int .i8 ((rd_T59 l0 x4_1).f0.f0), .int .i8 ((rd_T59 l0 x4_1).f0.f1), .int .i8 ((rd_T59 l0 x4_1).f1), .int .i8 ((rd_T59 l0 x4_1).f2), .int .i8 ((rd_T59 l0 x4_1).f3), .int .i8 ((rd_T59 l0 x4_1).f4)] 59 (0, 0)) (by (with_reducible repeat (first | refine blk_drewN ?_ _ | refine blk_drew ?_ | refine blk_alloc ?_ _)); exact BK142.out) hb)
                                  have n1_ := Aside0.mk (below_step (by repeat (first | (with_reducible first | exact HB.out | apply below_alloc | apply pw_below_drewN | apply below_drew1 | refine below_set ?_ GE142.out) | exact HB.out)) hb)
                                  clear BK142
                                  clear HB
                                  have BK142 := n0_
                                  have HB := n1_
                                  clear n0_ n1_
                                  (try clear hb)
                                  (try clear hb2)
                                  (try clear hk)
                                  (try clear hi)
                                  refine hK.out _ _ ⟨(blk_cell BK142.out 0).trans rfl, (blk_cell BK142.out 1).trans rfl, (blk_cell BK142.out 2).trans rfl, (blk_cell BK142.out 3).trans rfl, (blk_cell BK142.out 4).trans rfl, (blk_cell BK142.out 5).trans rfl⟩ (fun hHeld => ?_)
                                  clear hK K
                                  refine norm_ (a' := ?_) ?_ ?_
                                  rotate_left
                                  · show Act.put _ (some 33) _ = _
                                    simp only [Act.put, List.setIfInBounds_toArray, List.set_cons_zero, List.set_cons_succ, i64_w, i32_w]
                                    rfl
                                  refine pure_ (i := 18) (N := some 34) (v := ?_) (a' := ?_) #[true, true, true, true, true, true, true, true, true, true, true, true, true, true, true, true, true, true, true, false, true, true, true, false, false, false, true, true, true, false, false, false, true, true, true, false, false, false, false, false] rfl rfl (any_of HT_.out (by kernel_rfl)) (fun _ _ _ h => h) (Or.inl ⟨by rfl, ?_⟩) ?_ ?_
                                  rotate_left
                                  · intro w'
                                    go_simp
                                    with_reducible rfl
                                  rotate_left
                                  · simp only [Act.put, List.setIfInBounds_toArray, List.set_cons_zero, List.set_cons_succ, i64_w, i32_w]
                                    rfl
                                  refine pure_ (i := 19) (N := some 35) (v := ?_) (a' := ?_) #[true, true, true, true, true, true, true, true, true, true, true, true, true, true, true, true, true, true, true, true, true, true, true, false, false, false, true, true, true, false, false, false, true, true, true, false, false, false, false, false] rfl rfl (any_of HT_.out (by kernel_rfl)) (fun _ _ _ h => h) (Or.inl ⟨by rfl, ?_⟩) ?_ ?_
                                  rotate_left
                                  · intro w'
                                    go_simp
                                    with_reducible rfl
                                  rotate_left
                                  · simp only [Act.put, List.setIfInBounds_toArray, List.set_cons_zero, List.set_cons_succ, i64_w, i32_w]
                                    rfl
                                  refine one_ (i := 23) (N := some 39) #[true, true, true, true, true, true, true, true, true, true, true, true, true, true, true, true, true, true, true, true, true, true, true, true, false, false, true, true, true, false, false, false, true, true, true, false, false, false, false, false] rfl rfl (one_of HT_.out (by kernel_rfl)) (by decide) (fun K hK => ?_)
                                  refine goes_ Tryd.func46 (by kernel_rfl) rfl #[.int .i64 (wrap64 ((rd_T59 l0 x4_1).f2))] (by rfl) rfl rfl (by (try simp only [List.map_toArray, List.map_cons, List.map_nil]); first | done | rfl | (simp only [List.length_drop, List.length_take]; rfl)) ?_
                                  with_reducible refine (spec_Decimal.calls k1 (wrap64 ((rd_T59 l0 x4_1).f2)) t146 _ A12.out).mono ?_
                                  rintro e w29 ⟨rfl, hb⟩
                                  refine ⟨_, rfl, ?_⟩
                                  have n0_ := Aside0.mk (blk_below (g := gb142) (o := .cells #[.int .i8 ((rd_T59 l0 x4_1).f0.f0), .int .i8 ((rd_T59 l0 x4_1).f0.f1), .int .i8 ((rd_T59 l0 x4_1).f1), .int .i8 ((rd_T59 l0 x4_1).f2), .int .i8 ((rd_T59 l0 x4_1).f3), .int .i8 ((rd_T59 l0 x4_1).f4)] 59 (0, 0)) (by (with_reducible repeat (first | refine blk_drewN ?_ _ | refine blk_drew ?_ | refine blk_alloc ?_ _)); exact BK142.out) hb)
                                  have n1_ := Aside0.mk (below_step (by repeat (first | (with_reducible first | exact HB.out | apply below_alloc | apply pw_below_drewN | apply below_drew1 | refine below_set ?_ GE142.out) | exact HB.out)) hb)
                                  clear BK142
                                  clear HB
                                  have BK142 := n0_
                                  have HB := n1_
                                  clear n0_ n1_
                                  (try clear hb)
                                  (try clear hb2)
                                  (try clear hk)
                                  (try clear hi)
                                  refine hK.out _ _ ⟨(blk_cell BK142.out 0).trans rfl, (blk_cell BK142.out 1).trans rfl, (blk_cell BK142.out 2).trans rfl, (blk_cell BK142.out 3).trans rfl, (blk_cell BK142.out 4).trans rfl, (blk_cell BK142.out 5).trans rfl⟩ (fun hHeld => ?_)
                                  clear hK K
                                  refine norm_ (a' := ?_) ?_ ?_
                                  rotate_left
                                  · show Act.put _ (some 39) _ = _
                                    simp only [Act.put, List.setIfInBounds_toArray, List.set_cons_zero, List.set_cons_succ, i64_w, i32_w]
                                    rfl
                                  refine pure_ (i := 24) (N := some 40) (v := ?_) (a' := ?_) #[true, true, true, true, true, true, true, true, true, true, true, true, true, true, true, true, true, true, true, true, true, true, true, true, true, false, true, true, true, false, false, false, true, true, true, false, false, false, false, false] rfl rfl (any_of HT_.out (by kernel_rfl)) (fun _ _ _ h => h) (Or.inl ⟨by rfl, ?_⟩) ?_ ?_
                                  rotate_left
                                  · intro w'
                                    go_simp
                                    with_reducible rfl
                                  rotate_left
                                  · simp only [Act.put, List.setIfInBounds_toArray, List.set_cons_zero, List.set_cons_succ, i64_w, i32_w]
                                    rfl
                                  refine pure_ (i := 25) (N := some 41) (v := ?_) (a' := ?_) #[true, true, true, true, true, true, true, true, true, true, true, true, true, true, true, true, true, true, true, true, true, true, true, true, true, true, true, true, true, false, false, false, true, true, true, false, false, false, false, false] rfl rfl (any_of HT_.out (by kernel_rfl)) (fun _ _ _ h => h) (Or.inl ⟨by rfl, ?_⟩) ?_ ?_
                                  rotate_left
                                  · intro w'
                                    go_simp
                                    with_reducible rfl
                                  rotate_left
                                  · simp only [Act.put, List.setIfInBounds_toArray, List.set_cons_zero, List.set_cons_succ, i64_w, i32_w]
                                    rfl
                                  refine one_ (i := 29) (N := some 45) #[true, true, true, true, true, true, true, true, true, true, true, true, true, true, true, true, true, true, true, true, true, true, true, true, true, true, true, true, true, true, false, false, true, true, true, false, false, false, false, false] rfl rfl (one_of HT_.out (by kernel_rfl)) (by decide) (fun K hK => ?_)
                                  refine goes_ Tryd.func46 (by kernel_rfl) rfl #[.int .i64 (wrap64 ((rd_T59 l0 x4_1).f3))] (by rfl) rfl rfl (by (try simp only [List.map_toArray, List.map_cons, List.map_nil]); first | done | rfl | (simp only [List.length_drop, List.length_take]; rfl)) ?_
                                  with_reducible refine (spec_Decimal.calls k1 (wrap64 ((rd_T59 l0 x4_1).f3)) t147 _ A15.out).mono ?_
                                  rintro e w30 ⟨rfl, hb⟩
                                  refine ⟨_, rfl, ?_⟩
                                  have n0_ := Aside0.mk (blk_below (g := gb142) (o := .cells #[.int .i8 ((rd_T59 l0 x4_1).f0.f0), .int .i8 ((rd_T59 l0 x4_1).f0.f1), .int .i8 ((rd_T59 l0 x4_1).f1), .int .i8 ((rd_T59 l0 x4_1).f2), .int .i8 ((rd_T59 l0 x4_1).f3), .int .i8 ((rd_T59 l0 x4_1).f4)] 59 (0, 0)) (by (with_reducible repeat (first | refine blk_drewN ?_ _ | refine blk_drew ?_ | refine blk_alloc ?_ _)); exact BK142.out) hb)
                                  have n1_ := Aside0.mk (below_step (by repeat (first | (with_reducible first | exact HB.out | apply below_alloc | apply pw_below_drewN | apply below_drew1 | refine below_set ?_ GE142.out) | exact HB.out)) hb)
                                  clear BK142
                                  clear HB
                                  have BK142 := n0_
                                  have HB := n1_
                                  clear n0_ n1_
                                  (try clear hb)
                                  (try clear hb2)
                                  (try clear hk)
                                  (try clear hi)
                                  refine hK.out _ _ ⟨(blk_cell BK142.out 0).trans rfl, (blk_cell BK142.out 1).trans rfl, (blk_cell BK142.out 2).trans rfl, (blk_cell BK142.out 3).trans rfl, (blk_cell BK142.out 4).trans rfl, (blk_cell BK142.out 5).trans rfl⟩ (fun hHeld => ?_)
                                  clear hK K
                                  refine norm_ (a' := ?_) ?_ ?_
                                  rotate_left
                                  · show Act.put _ (some 45) _ = _
                                    simp only [Act.put, List.setIfInBounds_toArray, List.set_cons_zero, List.set_cons_succ, i64_w, i32_w]
                                    rfl
                                  refine pure_ (i := 30) (N := some 46) (v := ?_) (a' := ?_) #[true, true, true, true, true, true, true, true, true, true, true, true, true, true, true, true, true, true, true, true, true, true, true, true, true, true, true, true, true, true, true, false, true, true, true, false, false, false, false, false] rfl rfl (any_of HT_.out (by kernel_rfl)) (fun _ _ _ h => h) (Or.inl ⟨by rfl, ?_⟩) ?_ ?_
                                  rotate_left
                                  · intro w'
                                    go_simp
                                    with_reducible rfl
                                  rotate_left
                                  · simp only [Act.put, List.setIfInBounds_toArray, List.set_cons_zero, List.set_cons_succ, i64_w, i32_w]
                                    rfl
                                  refine pure_ (i := 31) (N := some 47) (v := ?_) (a' := ?_) #[true, true, true, true, true, true, true, true, true, true, true, true, true, true, true, true, true, true, true, true, true, true, true, true, true, true, true, true, true, true, true, true, true, true, true, false, false, false, false, false] rfl rfl (any_of HT_.out (by kernel_rfl)) (fun _ _ _ h => h) (Or.inl ⟨by rfl, ?_⟩) ?_ ?_
                                  rotate_left
                                  · intro w'
                                    go_simp
                                    with_reducible rfl
                                  rotate_left
                                  · simp only [Act.put, List.setIfInBounds_toArray, List.set_cons_zero, List.set_cons_succ, i64_w, i32_w]
                                    rfl
                                  refine one_ (i := 35) (N := some 51) #[true, true, true, true, true, true, true, true, true, true, true, true, true, true, true, true, true, true, true, true, true, true, true, true, true, true, true, true, true, true, true, true, true, true, true, true, false, false, false, false] rfl rfl (one_of HT_.out (by kernel_rfl)) (by decide) (fun K hK => ?_)
                                  refine goes_ Tryd.func46 (by kernel_rfl) rfl #[.int .i64 (wrap64 ((rd_T59 l0 x4_1).f4))] (by rfl) rfl rfl (by (try simp only [List.map_toArray, List.map_cons, List.map_nil]); first | done | rfl | (simp only [List.length_drop, List.length_take]; rfl)) ?_
                                  with_reducible refine (spec_Decimal.calls k1 (wrap64 ((rd_T59 l0 x4_1).f4)) t148 _ A18.out).mono ?_
                                  rintro e w31 ⟨rfl, hb⟩
                                  refine ⟨_, rfl, ?_⟩
                                  have n0_ := Aside0.mk (blk_below (g := gb142) (o := .cells #[.int .i8 ((rd_T59 l0 x4_1).f0.f0), .int .i8 ((rd_T59 l0 x4_1).f0.f1), .int .i8 ((rd_T59 l0 x4_1).f1), .int .i8 ((rd_T59 l0 x4_1).f2), .int .i8 ((rd_T59 l0 x4_1).f3), .int .i8 ((rd_T59 l0 x4_1).f4)] 59 (0, 0)) (by (with_reducible repeat (first | refine blk_drewN ?_ _ | refine blk_drew ?_ | refine blk_alloc ?_ _)); exact BK142.out) hb)
                                  have n1_ := Aside0.mk (below_step (by repeat (first | (with_reducible first | exact HB.out | apply below_alloc | apply pw_below_drewN | apply below_drew1 | refine below_set ?_ GE142.out) | exact HB.out)) hb)
                                  clear BK142
                                  clear HB
                                  have BK142 := n0_
                                  have HB := n1_
                                  clear n0_ n1_
                                  (try clear hb)
                                  (try clear hb2)
                                  (try clear hk)
                                  (try clear hi)
                                  refine hK.out _ _ ⟨(blk_cell BK142.out 0).trans rfl, (blk_cell BK142.out 1).trans rfl, (blk_cell BK142.out 2).trans rfl, (blk_cell BK142.out 3).trans rfl, (blk_cell BK142.out 4).trans rfl, (blk_cell BK142.out 5).trans rfl⟩ (fun hHeld => ?_)
                                  clear hK K
                                  refine norm_ (a' := ?_) ?_ ?_
                                  rotate_left
                                  · show Act.put _ (some 51) _ = _
                                    simp only [Act.put, List.setIfInBounds_toArray, List.set_cons_zero, List.set_cons_succ, i64_w, i32_w]
                                    rfl
                                  refine pure_ (i := 36) (N := some 52) (v := ?_) (a' := ?_) #[true, true, true, true, true, true, true, true, true, true, true, true, true, true, true, true, true, true, true, true, true, true, true, true, true, true, true, true, true, true, true, true, true, true, true, true, true, false, false, false] rfl rfl (any_of HT_.out (by kernel_rfl)) (fun _ _ _ h => h) (Or.inl ⟨by rfl, ?_⟩) ?_ ?_
                                  rotate_left
                                  · intro w'
                                    go_simp
                                    with_reducible rfl
                                  rotate_left
                                  · simp only [Act.put, List.setIfInBounds_toArray, List.set_cons_zero, List.set_cons_succ, i64_w, i32_w]
                                    rfl
                                  refine pure_ (i := 37) (N := some 53) (v := ?_) (a' := ?_) #[true, true, true, true, true, true, true, true, true, true, true, true, true, true, true, true, true, true, true, true, true, true, true, true, true, true, true, true, true, true, true, true, true, true, true, true, true, true, false, false] rfl rfl (any_of HT_.out (by kernel_rfl)) (fun _ _ _ h => h) (Or.inl ⟨by rfl, ?_⟩) ?_ ?_
                                  rotate_left
                                  · intro w'
                                    go_simp
                                    with_reducible rfl
                                  rotate_left
                                  · simp only [Act.put, List.setIfInBounds_toArray, List.set_cons_zero, List.set_cons_succ, i64_w, i32_w]
                                    rfl
                                  refine pure_ (i := 38) (N := some 54) (v := ?_) (a' := ?_) #[true, true, true, true, true, true, true, true, true, true, true, true, true, true, true, true, true, true, true, true, true, true, true, true, true, true, true, true, true, true, true, true, true, true, true, true, true, true, true, false] rfl rfl (any_of HT_.out (by kernel_rfl)) (fun _ _ _ h => h) (Or.inl ⟨by rfl, ?_⟩) ?_ ?_
                                  rotate_left
                                  · intro w'
                                    go_simp
                                    with_reducible rfl
                                  rotate_left
                                  · simp only [Act.put, List.setIfInBounds_toArray, List.set_cons_zero, List.set_cons_succ, i64_w, i32_w]
                                    rfl
                                  refine pure_ (i := 39) (N := some 3) (v := ?_) (a' := ?_) #[true, true, true, true, true, true, true, true, true, true, true, true, true, true, true, true, true, true, true, true, true, true, true, true, true, true, true, true, true, true, true, true, true, true, true, true, true, true, true, true] rfl rfl (any_of HT_.out (by kernel_rfl)) (fun _ _ _ h => h) (Or.inl ⟨by rfl, ?_⟩) ?_ ?_
                                  rotate_left
                                  · intro w'
                                    go_simp
                                    with_reducible rfl
                                  rotate_left
                                  · simp only [Act.put, List.setIfInBounds_toArray, List.set_cons_zero, List.set_cons_succ, i64_w, i32_w]
                                    rfl
                                  refine done_ (done_of HT_.out (by kernel_rfl)) ?_
                                  try go_wp2
                                  go_roundg k1
                                  case measure => have := HK1.out; omega
                                  case rel => exact ⟨(x3_1 ++ (((((((((((t143 ++ (⟨#[44]⟩ : ByteArray)) ++ t144) ++ (⟨#[32]⟩ : ByteArray)) ++ t145) ++ (⟨#[32]⟩ : ByteArray)) ++ t146) ++ (⟨#[32]⟩ : ByteArray)) ++ t147) ++ (⟨#[32]⟩ : ByteArray)) ++ t148) ++ (⟨#[10]⟩ : ByteArray))), (wrap64 (x4_1 + 1)), (by first | rfl | (simp; done) | (simp [*]; done) | (rw [i8_wrap_le] <;> first | rfl | omega)), (by first | rfl | (simp; done) | (simp [*]; done) | (rw [i8_wrap_le] <;> first | rfl | omega)), H', ⟨by have := HK1.out; omega⟩, ⟨by repeat (first | (with_reducible first | exact HB.out | apply below_alloc | apply pw_below_drewN | apply below_drew1 | refine below_set ?_ GE142.out) | exact HB.out)⟩⟩
                                · rw [if_neg c21] at H
                                  exact absurd H (by simp)
                              · rw [if_neg c20] at H
                                exact absurd H (by simp)
                            · rw [if_neg c19] at H
                              exact absurd H (by simp)
                          · rw [if_neg c17] at H
                            exact absurd H (by simp)
                        · rw [if_neg c16] at H
                          exact absurd H (by simp)
                      · rw [if_neg c14] at H
                        exact absurd H (by simp)
                    · rw [if_neg c13] at H
                      exact absurd H (by simp)
                  · rw [if_neg c11] at H
                    exact absurd H (by simp)
                · rw [if_neg c10] at H
                  exact absurd H (by simp)
              · rw [if_neg c8] at H
                exact absurd H (by simp)
            · rw [if_neg c7] at H
              exact absurd H (by simp)
          · rw [if_neg c5] at H
            exact absurd H (by simp)
        · rw [if_neg c3] at H
          exact absurd H (by simp)
      · rw [if_neg c2] at H
        have c2b0 : decide (x4_1 < (l0.length : Int)) = false := decide_eq_false c2
        clear c2
        obtain rfl := Option.some.inj H
        go_wp2
        go_ret
        exact ⟨by first | rfl | (simp [errW_none, errW_some] <;> rfl) | (simp [*, errW_none, errW_some] <;> rfl), by repeat (first | (with_reducible first | exact HB.out | apply below_alloc | apply pw_below_drewN | apply below_drew1) | exact HB.out)⟩

/-! ### spec_BoatsText: function 11 -/
def spec_BoatsText.f (k : Nat) (a0_0 : Int) (a0_1 : Int) (a0_2 : (Nat → Int)) (l1 : List (S59)) : Option (ByteArray) := (spec_l01Asked.f k a0_0 a0_1 a0_2 l1).bind fun bt150 => (if bt150.1 = 0 then ((spec_l01Boats.f k l1).bind fun t154 => (some t154)) else (some (⟨#[]⟩ : ByteArray)))
theorem spec_BoatsText.mono : ∀ a0 a1 a2 a3 k, LeO (spec_BoatsText.f k a0 a1 a2 a3) (spec_BoatsText.f (k + 1) a0 a1 a2 a3) := by
  intro a0 a1 a2 a3 k
  unfold spec_BoatsText.f
  repeat' first
      | (with_reducible exact spec_l01Asked.mono _ _ _ _ _)
      | (with_reducible exact spec_l01Boats.mono _ _)
      | (with_reducible exact LeO.refl _)
      | (with_reducible exact LeO.none _)
      | (with_reducible refine LeO.ite ?_ ?_)
      | (with_reducible refine LeO.bind ?_ (fun _ => ?_))
      | exact spec_l01Asked.mono _ _ _ _ _
      | exact spec_l01Boats.mono _ _
      | exact LeO.none _
      | refine LeO.ite ?_ ?_
      | refine LeO.bind ?_ (fun _ => ?_)
set_option maxHeartbeats 8000000 in
set_option maxRecDepth 100000 in
theorem spec_BoatsText.calls (k : Nat) (a0_0 : Int) (a0_1 : Int) (a0_2 : (Nat → Int)) (A1 : Option Addr) (c1 : Nat) (l1 : List (S59)) (r : ByteArray) (w : World) (hr1 : Kd.C k59 w A1 l1.length l1) (hc1 : l1.length ≤ c1) (h : spec_BoatsText.f k a0_0 a0_1 a0_2 l1 = some r) :
    Calls Tryd.prog 11 #[.agg (csBay a0_0 a0_1 a0_2), .slice A1 l1.length c1] w fun e w' => e = .returned (.string r) ∧ Below w.heap.size w w' := by
  have hu28 := Tryd.underlying28
  have HR1 := Aside0.mk hr1
  have HC1 := Aside0.mk hc1
  clear hr1 hc1
  have HB := Aside0.mk (Below.refl w.heap.size w)
  have H : ((spec_l01Asked.f k a0_0 a0_1 a0_2 l1).bind fun bt150 => (if bt150.1 = 0 then ((spec_l01Boats.f k l1).bind fun t154 => (some t154)) else (some (⟨#[]⟩ : ByteArray)))) = some r := h
  clear h
  replace H := Option.bind_eq_some_iff.mp H
  obtain ⟨⟨t150, t151, t152, t153⟩, A30, H⟩ := H
  replace H : (if t150 = 0 then ((spec_l01Boats.f k l1).bind fun t154 => (some t154)) else (some (⟨#[]⟩ : ByteArray))) = some r := H
  have A3 := Aside0.mk A30
  clear A30
  by_cases c4 : t150 = 0
  · rw [if_pos c4] at H
    have c4b0 : (t150 == 0) = true := beq_iff_eq.mpr c4
    have c4b1 : (t150 != 0) = false := bne_eq_false_iff_eq.mpr c4
    clear c4
    replace H := Option.bind_eq_some_iff.mp H
    obtain ⟨t154, A50, H⟩ := H
    replace H : (some t154) = some r := H
    have A5 := Aside0.mk A50
    clear A50
    obtain rfl := Option.some.inj H
    go_enter Tryd.func11, Tryd.ntmps11
    go_wp2_with (first | ((with_reducible refine gate_dst (N := 2) rfl ?_); refine box_event ?hg (N := 2) ?hd (cs := (csBay a0_0 a0_1 a0_2)) (t := 28) ?hr ?_; (case hd => rfl); (case hg => rfl); (case hr => first | (go_simp; done) | (go_simp; rfl)); intro gb149 hg w6 hbox hb; have n0_ := Aside0.mk (below_step (by repeat (first | (with_reducible first | exact HB.out | apply below_alloc | apply pw_below_drewN | apply below_drew1) | exact HB.out)) hb); have n1_ := Aside0.mk ((show IsS28 w w6 gb149 a0_0 a0_1 a0_2 from ⟨hbox, by rw [hg]; exact (below_size (by repeat (first | (with_reducible first | exact HB.out | apply below_alloc | apply pw_below_drewN | apply below_drew1) | exact HB.out)))⟩)); have n2_ := Aside0.mk ((by rw [hg]; exact (below_size (by repeat (first | (with_reducible first | exact HB.out | apply below_alloc | apply pw_below_drewN | apply below_drew1) | exact HB.out))) : w.heap.size ≤ gb149)); have n3_ := Aside0.mk ((by rw [hg]; exact (below_size (by repeat (first | (with_reducible first | exact HB.out | apply below_alloc | apply pw_below_drewN | apply below_drew1) | exact HB.out))) : w.heap.size ≤ gb149)); clear HB; have HB := n0_; have HI149 := n1_; have GW149 := n2_; have GE149 := n3_; clear n0_ n1_ n2_ n3_; clear hb hbox hg) | ((with_reducible refine gate_callee (f := 28) rfl ?_); refine goesL_ (some 6) rfl rfl Tryd.func28 (by kernel_rfl) rfl #[.pointer (some ⟨gb149, 0, none⟩), .slice A1 l1.length c1] rfl (by (try simp only [List.map_toArray, List.map_cons, List.map_nil]); first | done | rfl | (simp only [List.length_drop, List.length_take]; rfl)) ?_; (with_reducible refine (spec_l01Asked.calls k gb149 a0_0 a0_1 a0_2 _ _ l1 t150 t151 t152 t153 w _ ?side1 ?side2 ?side3 ?side4 A3.out).mono ?_); (case side1 => repeat (first | (with_reducible first | exact HI149.out | apply IsS28.alloc | apply IsS28.drewN | apply IsS28.drew | apply IsS28.set_0 | apply IsS28.set_1 | apply IsS28.set_2) | exact HI149.out)); (case side2 => repeat (first | (with_reducible first | exact HB.out | apply below_alloc | apply pw_below_drewN | apply below_drew1 | refine below_set ?_ (IsS28.ge HI149.out)) | exact HB.out)); (case side3 => exact Kd.C_foot_came k59_heap HR1.out (by repeat (first | (with_reducible first | exact HB.out | apply below_alloc | apply pw_below_drewN | apply below_drew1 | refine below_set ?_ (IsS28.ge HI149.out)) | exact HB.out)) (IsS28.ge HI149.out)); (case side4 => exact HC1.out); rintro e w7 ⟨rfl, hi, hb, hk⟩; refine ⟨_, rfl, ?_⟩; have n0_ := Aside0.mk (hb); have n1_ := Aside0.mk (hi); clear HB; clear HI149; have HB := n0_; have HI149 := n1_; clear n0_ n1_; (try clear hb); (try clear hb2); (try clear hk); (try clear hi)) | ((with_reducible refine gate_callee (f := 29) rfl ?_); refine goesL_ (some 9) rfl rfl Tryd.func29 (by kernel_rfl) rfl #[.slice A1 l1.length c1] rfl (by (try simp only [List.map_toArray, List.map_cons, List.map_nil]); first | done | rfl | (simp only [List.length_drop, List.length_take]; rfl)) ?_; (with_reducible refine (spec_l01Boats.calls k _ _ l1 t154 _ ?side1 ?side2 A5.out).mono ?_); (case side1 => repeat (first | exact (Kd.C_below HR1.out HB.out) | (with_reducible refine Kd.C_alloc ?_ _) | (with_reducible refine Kd.C_drewN ?_ _) | (with_reducible refine Kd.C_drew ?_))); (case side2 => exact HC1.out); rintro e w8 ⟨rfl, hb⟩; refine ⟨_, rfl, ?_⟩; have n0_ := Aside0.mk (IsS28.below (by repeat (first | (with_reducible first | exact HI149.out | apply IsS28.alloc | apply IsS28.drewN | apply IsS28.drew | apply IsS28.set_0 | apply IsS28.set_1 | apply IsS28.set_2) | exact HI149.out)) hb); have n1_ := Aside0.mk (below_step (by repeat (first | (with_reducible first | exact HB.out | apply below_alloc | apply pw_below_drewN | apply below_drew1 | refine below_set ?_ (IsS28.ge HI149.out)) | exact HB.out)) hb); clear HI149; clear HB; have HI149 := n0_; have HB := n1_; clear n0_ n1_; (try clear hb); (try clear hb2); (try clear hk); (try clear hi)))
    go_ret
    exact ⟨by first | rfl | (simp [errW_none, errW_some] <;> rfl) | (simp [*, errW_none, errW_some] <;> rfl), by repeat (first | (with_reducible first | exact HB.out | apply below_alloc | apply pw_below_drewN | apply below_drew1 | refine below_set ?_ (IsS28.ge HI149.out)) | exact HB.out)⟩
  · rw [if_neg c4] at H
    have c4b0 : (t150 == 0) = false := beq_eq_false_iff_ne.mpr c4
    have c4b1 : (t150 != 0) = true := bne_iff_ne.mpr c4
    obtain rfl := Option.some.inj H
    go_enter Tryd.func11, Tryd.ntmps11
    go_wp2_with (first | ((with_reducible refine gate_dst (N := 2) rfl ?_); refine box_event ?hg (N := 2) ?hd (cs := (csBay a0_0 a0_1 a0_2)) (t := 28) ?hr ?_; (case hd => rfl); (case hg => rfl); (case hr => first | (go_simp; done) | (go_simp; rfl)); intro gb149 hg w9 hbox hb; have n0_ := Aside0.mk (below_step (by repeat (first | (with_reducible first | exact HB.out | apply below_alloc | apply pw_below_drewN | apply below_drew1) | exact HB.out)) hb); have n1_ := Aside0.mk ((show IsS28 w w9 gb149 a0_0 a0_1 a0_2 from ⟨hbox, by rw [hg]; exact (below_size (by repeat (first | (with_reducible first | exact HB.out | apply below_alloc | apply pw_below_drewN | apply below_drew1) | exact HB.out)))⟩)); have n2_ := Aside0.mk ((by rw [hg]; exact (below_size (by repeat (first | (with_reducible first | exact HB.out | apply below_alloc | apply pw_below_drewN | apply below_drew1) | exact HB.out))) : w.heap.size ≤ gb149)); have n3_ := Aside0.mk ((by rw [hg]; exact (below_size (by repeat (first | (with_reducible first | exact HB.out | apply below_alloc | apply pw_below_drewN | apply below_drew1) | exact HB.out))) : w.heap.size ≤ gb149)); clear HB; have HB := n0_; have HI149 := n1_; have GW149 := n2_; have GE149 := n3_; clear n0_ n1_ n2_ n3_; clear hb hbox hg) | ((with_reducible refine gate_callee (f := 28) rfl ?_); refine goesL_ (some 6) rfl rfl Tryd.func28 (by kernel_rfl) rfl #[.pointer (some ⟨gb149, 0, none⟩), .slice A1 l1.length c1] rfl (by (try simp only [List.map_toArray, List.map_cons, List.map_nil]); first | done | rfl | (simp only [List.length_drop, List.length_take]; rfl)) ?_; (with_reducible refine (spec_l01Asked.calls k gb149 a0_0 a0_1 a0_2 _ _ l1 t150 t151 t152 t153 w _ ?side1 ?side2 ?side3 ?side4 A3.out).mono ?_); (case side1 => repeat (first | (with_reducible first | exact HI149.out | apply IsS28.alloc | apply IsS28.drewN | apply IsS28.drew | apply IsS28.set_0 | apply IsS28.set_1 | apply IsS28.set_2) | exact HI149.out)); (case side2 => repeat (first | (with_reducible first | exact HB.out | apply below_alloc | apply pw_below_drewN | apply below_drew1 | refine below_set ?_ (IsS28.ge HI149.out)) | exact HB.out)); (case side3 => exact Kd.C_foot_came k59_heap HR1.out (by repeat (first | (with_reducible first | exact HB.out | apply below_alloc | apply pw_below_drewN | apply below_drew1 | refine below_set ?_ (IsS28.ge HI149.out)) | exact HB.out)) (IsS28.ge HI149.out)); (case side4 => exact HC1.out); rintro e w10 ⟨rfl, hi, hb, hk⟩; refine ⟨_, rfl, ?_⟩; have n0_ := Aside0.mk (hb); have n1_ := Aside0.mk (hi); clear HB; clear HI149; have HB := n0_; have HI149 := n1_; clear n0_ n1_; (try clear hb); (try clear hb2); (try clear hk); (try clear hi)))
    go_ret
    exact ⟨by first | rfl | (simp [errW_none, errW_some] <;> rfl) | (simp [*, errW_none, errW_some] <;> rfl), by repeat (first | (with_reducible first | exact HB.out | apply below_alloc | apply pw_below_drewN | apply below_drew1 | refine below_set ?_ (IsS28.ge HI149.out)) | exact HB.out)⟩

/-! ### laws_toPlace: function 52 -/
def laws_toPlace.f (a0_0 : Int) (a0_1 : Int) : Option (Int × Int) := some (a0_0, a0_1)
set_option maxHeartbeats 8000000 in
set_option maxRecDepth 100000 in
theorem laws_toPlace.calls (a0_0 : Int) (a0_1 : Int) (r1 : Int) (r2 : Int) (w : World) (h : laws_toPlace.f a0_0 a0_1 = some (r1, r2)) :
    Calls Tryd.prog 52 #[.agg #[.int .i8 a0_0, .int .i8 a0_1]] w fun e w' => e = .returned (.agg #[.int .i8 r1, .int .i8 r2]) ∧ Below w.heap.size w w' := by
  have hu61 := Tryd.underlying61
  have hu57 := Tryd.underlying57
  have HB := Aside0.mk (Below.refl w.heap.size w)
  have H : (some (a0_0, a0_1)) = some (r1, r2) := h
  clear h
  simp only [Option.some.injEq, Prod.mk.injEq] at H
  obtain ⟨rfl, rfl⟩ := H
  go_enter Tryd.func52, Tryd.ntmps52
  go_wp2_with (first | ((with_reducible refine gate_dst (N := 1) rfl ?_); refine box_event ?hg (N := 1) ?hd (cs := #[.int .i8 a0_0, .int .i8 a0_1]) (t := 61) ?hr ?_; (case hd => rfl); (case hg => rfl); (case hr => first | (go_simp; done) | (go_simp; rfl)); intro gb155 hg w2 hbox hb; have n0_ := Aside0.mk (below_step (by repeat (first | (with_reducible first | exact HB.out | apply below_alloc | apply pw_below_drewN | apply below_drew1) | exact HB.out)) hb); have n1_ := Aside0.mk (hbox); have n2_ := Aside0.mk ((by rw [hg]; exact (below_size (by repeat (first | (with_reducible first | exact HB.out | apply below_alloc | apply pw_below_drewN | apply below_drew1) | exact HB.out))) : w.heap.size ≤ gb155)); have n3_ := Aside0.mk ((by rw [hg]; exact (below_size (by repeat (first | (with_reducible first | exact HB.out | apply below_alloc | apply pw_below_drewN | apply below_drew1) | exact HB.out))) : w.heap.size ≤ gb155)); clear HB; have HB := n0_; have BK155 := n1_; have GW155 := n2_; have GE155 := n3_; clear n0_ n1_ n2_ n3_; clear hb hbox hg) | ((with_reducible refine gate_dst (N := 2) rfl ?_); refine box_event ?hg (N := 2) ?hd (cs := #[.int .i8 0, .int .i8 0]) (t := 57) ?hr ?_; (case hd => rfl); (case hg => rfl); (case hr => first | (go_simp; done) | (go_simp; rfl)); intro gb156 hg w3 hbox hb; have n0_ := Aside0.mk (blk_below (g := gb155) (o := .cells #[.int .i8 a0_0, .int .i8 a0_1] 61 (0, 0)) (by (with_reducible repeat (first | refine blk_drewN ?_ _ | refine blk_drew ?_ | refine blk_alloc ?_ _)); exact BK155.out) hb); have n1_ := Aside0.mk (below_step (by repeat (first | (with_reducible first | exact HB.out | apply below_alloc | apply pw_below_drewN | apply below_drew1 | refine below_set ?_ GE155.out) | exact HB.out)) hb); have n2_ := Aside0.mk (hbox); have n3_ := Aside0.mk ((by rw [hg]; exact (below_size (by repeat (first | (with_reducible first | exact HB.out | apply below_alloc | apply pw_below_drewN | apply below_drew1 | refine below_set ?_ GE155.out) | exact HB.out))) : w.heap.size ≤ gb156)); have n4_ := Aside0.mk ((by rw [hg]; exact (below_size (by repeat (first | (with_reducible first | exact HB.out | apply below_alloc | apply pw_below_drewN | apply below_drew1 | refine below_set ?_ GE155.out) | exact HB.out))) : w.heap.size ≤ gb156)); have n5_ := Aside0.mk ((by rw [hg]; exact Nat.ne_of_lt (blk_lt (g := gb155) (o := .cells #[.int .i8 a0_0, .int .i8 a0_1] 61 (0, 0)) (by (with_reducible repeat (first | refine blk_drewN ?_ _ | refine blk_drew ?_ | refine blk_alloc ?_ _)); exact BK155.out)) : gb155 ≠ gb156)); have n6_ := Aside0.mk ((by rw [hg]; exact Nat.ne_of_gt (blk_lt (g := gb155) (o := .cells #[.int .i8 a0_0, .int .i8 a0_1] 61 (0, 0)) (by (with_reducible repeat (first | refine blk_drewN ?_ _ | refine blk_drew ?_ | refine blk_alloc ?_ _)); exact BK155.out)) : gb156 ≠ gb155)); clear BK155; clear HB; have BK155 := n0_; have HB := n1_; have BK156 := n2_; have GW156 := n3_; have GE156 := n4_; have NB155_156 := n5_; have NB156_155 := n6_; clear n0_ n1_ n2_ n3_ n4_ n5_ n6_; clear hb hbox hg) | ((with_reducible refine gate_dst (N := 3) rfl ?_); refine box_event ?hg (N := 3) ?hd (cs := #[.int .i8 0, .int .i8 0]) (t := 57) ?hr ?_; (case hd => rfl); (case hg => rfl); (case hr => first | (go_simp; done) | (go_simp; rfl)); intro gb157 hg w4 hbox hb; have n0_ := Aside0.mk (blk_below (g := gb155) (o := .cells #[.int .i8 a0_0, .int .i8 a0_1] 61 (0, 0)) (by (with_reducible repeat (first | refine blk_drewN ?_ _ | refine blk_drew ?_ | refine blk_alloc ?_ _)); exact BK155.out) hb); have n1_ := Aside0.mk (blk_below (g := gb156) (o := .cells #[.int .i8 0, .int .i8 0] 57 (0, 0)) (by (with_reducible repeat (first | refine blk_drewN ?_ _ | refine blk_drew ?_ | refine blk_alloc ?_ _)); exact BK156.out) hb); have n2_ := Aside0.mk (below_step (by repeat (first | (with_reducible first | exact HB.out | apply below_alloc | apply pw_below_drewN | apply below_drew1 | refine below_set ?_ GE155.out | refine below_set ?_ GE156.out) | exact HB.out)) hb); have n3_ := Aside0.mk (hbox); have n4_ := Aside0.mk ((by rw [hg]; exact (below_size (by repeat (first | (with_reducible first | exact HB.out | apply below_alloc | apply pw_below_drewN | apply below_drew1 | refine below_set ?_ GE155.out | refine below_set ?_ GE156.out) | exact HB.out))) : w.heap.size ≤ gb157)); have n5_ := Aside0.mk ((by rw [hg]; exact (below_size (by repeat (first | (with_reducible first | exact HB.out | apply below_alloc | apply pw_below_drewN | apply below_drew1 | refine below_set ?_ GE155.out | refine below_set ?_ GE156.out) | exact HB.out))) : w.heap.size ≤ gb157)); have n6_ := Aside0.mk ((by rw [hg]; exact Nat.ne_of_lt (blk_lt (g := gb155) (o := .cells #[.int .i8 a0_0, .int .i8 a0_1] 61 (0, 0)) (by (with_reducible repeat (first | refine blk_drewN ?_ _ | refine blk_drew ?_ | refine blk_alloc ?_ _)); exact BK155.out)) : gb155 ≠ gb157)); have n7_ := Aside0.mk ((by rw [hg]; exact Nat.ne_of_gt (blk_lt (g := gb155) (o := .cells #[.int .i8 a0_0, .int .i8 a0_1] 61 (0, 0)) (by (with_reducible repeat (first | refine blk_drewN ?_ _ | refine blk_drew ?_ | refine blk_alloc ?_ _)); exact BK155.out)) : gb157 ≠ gb155)); have n8_ := Aside0.mk ((by rw [hg]; exact Nat.ne_of_lt (blk_lt (g := gb156) (o := .cells #[.int .i8 0, .int .i8 0] 57 (0, 0)) (by (with_reducible repeat (first | refine blk_drewN ?_ _ | refine blk_drew ?_ | refine blk_alloc ?_ _)); exact BK156.out)) : gb156 ≠ gb157)); have n9_ := Aside0.mk ((by rw [hg]; exact Nat.ne_of_gt (blk_lt (g := gb156) (o := .cells #[.int .i8 0, .int .i8 0] 57 (0, 0)) (by (with_reducible repeat (first | refine blk_drewN ?_ _ | refine blk_drew ?_ | refine blk_alloc ?_ _)); exact BK156.out)) : gb157 ≠ gb156)); clear BK155; clear BK156; clear HB; have BK155 := n0_; have BK156 := n1_; have HB := n2_; have BK157 := n3_; have GW157 := n4_; have GE157 := n5_; have NB155_157 := n6_; have NB157_155 := n7_; have NB156_157 := n8_; have NB157_156 := n9_; clear n0_ n1_ n2_ n3_ n4_ n5_ n6_ n7_ n8_ n9_; clear hb hbox hg; have hnb5 := NB155_156.out; have hnc5 := NB156_155.out; have hnb6 := NB155_157.out; have hnc6 := NB157_155.out; have hcz7_0 : w4.cell? ⟨gb155, 0, none⟩ = some (.int .i8 a0_0) := (blk_cell BK155.out 0).trans rfl; have hcz7_1 : w4.cell? ⟨gb155, 1, none⟩ = some (.int .i8 a0_1) := (blk_cell BK155.out 1).trans rfl; have hfz7_0 := blk_frozen BK155.out 0; have hfz7_1 := blk_frozen BK155.out 1; have hnb8 := NB157_156.out; have hnc8 := NB156_157.out; have hcz9_0 : w4.cell? ⟨gb157, 0, none⟩ = some (.int .i8 0) := (blk_cell BK157.out 0).trans rfl; have hcz9_1 : w4.cell? ⟨gb157, 1, none⟩ = some (.int .i8 0) := (blk_cell BK157.out 1).trans rfl; have hfz9_0 := blk_frozen BK157.out 0; have hfz9_1 := blk_frozen BK157.out 1; have hcz10_0 : w4.cell? ⟨gb156, 0, none⟩ = some (.int .i8 0) := (blk_cell BK156.out 0).trans rfl; have hcz10_1 : w4.cell? ⟨gb156, 1, none⟩ = some (.int .i8 0) := (blk_cell BK156.out 1).trans rfl; have hfz10_0 := blk_frozen BK156.out 0; have hfz10_1 := blk_frozen BK156.out 1))
  refine bodyPost_ret (results_cell_row rfl _ _ gb156 57 #[.int .i8 a0_0, .int .i8 a0_1] (0, 0) _ rfl (by (with_reducible repeat (first | refine blk_drewN ?_ _ | refine blk_drew ?_ | refine blk_alloc ?_ _)); refine blk_put (cs := #[.int .i8 a0_0, .int .i8 0]) ?_ 1 _ rfl; (with_reducible repeat (first | refine blk_drewN ?_ _ | refine blk_drew ?_ | refine blk_alloc ?_ _)); refine blk_put (cs := #[.int .i8 0, .int .i8 0]) ?_ 0 _ rfl; (with_reducible repeat (first | refine blk_drewN ?_ _ | refine blk_drew ?_ | refine blk_alloc ?_ _)); refine blk_far ?_ NB156_157.out _; (with_reducible repeat (first | refine blk_drewN ?_ _ | refine blk_drew ?_ | refine blk_alloc ?_ _)); refine blk_far ?_ NB156_157.out _; (with_reducible repeat (first | refine blk_drewN ?_ _ | refine blk_drew ?_ | refine blk_alloc ?_ _)); exact BK156.out) Tryd.underlying57 rfl (by kernel_rfl)) rfl ?_
  exact ⟨by first | rfl | (simp [errW_none, errW_some] <;> rfl) | (simp [*, errW_none, errW_some] <;> rfl), by repeat (first | (with_reducible first | exact HB.out | apply below_alloc | apply pw_below_drewN | apply below_drew1 | refine below_set ?_ GE155.out | refine below_set ?_ GE156.out | refine below_set ?_ GE157.out) | exact HB.out)⟩

/-! ### laws_toBoat: function 30 -/
def laws_toBoat.f (a0_0 : Int) (a0_1 : Int) (a0_2 : Int) (a0_3 : Int) (a0_4 : Int) (a0_5 : Int) : Option (Int × Int × Int × Int × Int × Int) := (laws_toPlace.f a0_0 a0_1).bind fun bt161 => (some (bt161.1, bt161.2, a0_2, a0_3, a0_4, a0_5))
set_option maxHeartbeats 8000000 in
set_option maxRecDepth 100000 in
theorem laws_toBoat.calls (a0_0 : Int) (a0_1 : Int) (a0_2 : Int) (a0_3 : Int) (a0_4 : Int) (a0_5 : Int) (r1 : Int) (r2 : Int) (r3 : Int) (r4 : Int) (r5 : Int) (r6 : Int) (w : World) (h : laws_toBoat.f a0_0 a0_1 a0_2 a0_3 a0_4 a0_5 = some (r1, r2, r3, r4, r5, r6)) :
    Calls Tryd.prog 30 #[.agg #[.int .i8 a0_0, .int .i8 a0_1, .int .i8 a0_2, .int .i8 a0_3, .int .i8 a0_4, .int .i8 a0_5]] w fun e w' => e = .returned (.agg #[.int .i8 r1, .int .i8 r2, .int .i8 r3, .int .i8 r4, .int .i8 r5, .int .i8 r6]) ∧ Below w.heap.size w w' := by
  have hu63 := Tryd.underlying63
  have hu59 := Tryd.underlying59
  have hu61 := Tryd.underlying61
  have hu57 := Tryd.underlying57
  have HB := Aside0.mk (Below.refl w.heap.size w)
  have H : ((laws_toPlace.f a0_0 a0_1).bind fun bt161 => (some (bt161.1, bt161.2, a0_2, a0_3, a0_4, a0_5))) = some (r1, r2, r3, r4, r5, r6) := h
  clear h
  replace H := Option.bind_eq_some_iff.mp H
  obtain ⟨⟨t161, t162⟩, A20, H⟩ := H
  replace H : (some (t161, t162, a0_2, a0_3, a0_4, a0_5)) = some (r1, r2, r3, r4, r5, r6) := H
  have A2 := Aside0.mk A20
  clear A20
  simp only [Option.some.injEq, Prod.mk.injEq] at H
  obtain ⟨rfl, rfl, rfl, rfl, rfl, rfl⟩ := H
  go_enter Tryd.func30, Tryd.ntmps30
  go_wp2_with (first | ((with_reducible refine gate_dst (N := 1) rfl ?_); refine box_event ?hg (N := 1) ?hd (cs := #[.int .i8 a0_0, .int .i8 a0_1, .int .i8 a0_2, .int .i8 a0_3, .int .i8 a0_4, .int .i8 a0_5]) (t := 63) ?hr ?_; (case hd => rfl); (case hg => rfl); (case hr => first | (go_simp; done) | (go_simp; rfl)); intro gb158 hg w3 hbox hb; have n0_ := Aside0.mk (below_step (by repeat (first | (with_reducible first | exact HB.out | apply below_alloc | apply pw_below_drewN | apply below_drew1) | exact HB.out)) hb); have n1_ := Aside0.mk (hbox); have n2_ := Aside0.mk ((by rw [hg]; exact (below_size (by repeat (first | (with_reducible first | exact HB.out | apply below_alloc | apply pw_below_drewN | apply below_drew1) | exact HB.out))) : w.heap.size ≤ gb158)); have n3_ := Aside0.mk ((by rw [hg]; exact (below_size (by repeat (first | (with_reducible first | exact HB.out | apply below_alloc | apply pw_below_drewN | apply below_drew1) | exact HB.out))) : w.heap.size ≤ gb158)); clear HB; have HB := n0_; have BK158 := n1_; have GW158 := n2_; have GE158 := n3_; clear n0_ n1_ n2_ n3_; clear hb hbox hg) | ((with_reducible refine gate_dst (N := 2) rfl ?_); refine box_event ?hg (N := 2) ?hd (cs := #[.int .i8 0, .int .i8 0, .int .i8 0, .int .i8 0, .int .i8 0, .int .i8 0]) (t := 59) ?hr ?_; (case hd => rfl); (case hg => rfl); (case hr => first | (go_simp; done) | (go_simp; rfl)); intro gb159 hg w4 hbox hb; have n0_ := Aside0.mk (blk_below (g := gb158) (o := .cells #[.int .i8 a0_0, .int .i8 a0_1, .int .i8 a0_2, .int .i8 a0_3, .int .i8 a0_4, .int .i8 a0_5] 63 (0, 0)) (by (with_reducible repeat (first | refine blk_drewN ?_ _ | refine blk_drew ?_ | refine blk_alloc ?_ _)); exact BK158.out) hb); have n1_ := Aside0.mk (below_step (by repeat (first | (with_reducible first | exact HB.out | apply below_alloc | apply pw_below_drewN | apply below_drew1 | refine below_set ?_ GE158.out) | exact HB.out)) hb); have n2_ := Aside0.mk (hbox); have n3_ := Aside0.mk ((by rw [hg]; exact (below_size (by repeat (first | (with_reducible first | exact HB.out | apply below_alloc | apply pw_below_drewN | apply below_drew1 | refine below_set ?_ GE158.out) | exact HB.out))) : w.heap.size ≤ gb159)); have n4_ := Aside0.mk ((by rw [hg]; exact (below_size (by repeat (first | (with_reducible first | exact HB.out | apply below_alloc | apply pw_below_drewN | apply below_drew1 | refine below_set ?_ GE158.out) | exact HB.out))) : w.heap.size ≤ gb159)); have n5_ := Aside0.mk ((by rw [hg]; exact Nat.ne_of_lt (blk_lt (g := gb158) (o := .cells #[.int .i8 a0_0, .int .i8 a0_1, .int .i8 a0_2, .int .i8 a0_3, .int .i8 a0_4, .int .i8 a0_5] 63 (0, 0)) (by (with_reducible repeat (first | refine blk_drewN ?_ _ | refine blk_drew ?_ | refine blk_alloc ?_ _)); exact BK158.out)) : gb158 ≠ gb159)); have n6_ := Aside0.mk ((by rw [hg]; exact Nat.ne_of_gt (blk_lt (g := gb158) (o := .cells #[.int .i8 a0_0, .int .i8 a0_1, .int .i8 a0_2, .int .i8 a0_3, .int .i8 a0_4, .int .i8 a0_5] 63 (0, 0)) (by (with_reducible repeat (first | refine blk_drewN ?_ _ | refine blk_drew ?_ | refine blk_alloc ?_ _)); exact BK158.out)) : gb159 ≠ gb158)); clear BK158; clear HB; have BK158 := n0_; have HB := n1_; have BK159 := n2_; have GW159 := n3_; have GE159 := n4_; have NB158_159 := n5_; have NB159_158 := n6_; clear n0_ n1_ n2_ n3_ n4_ n5_ n6_; clear hb hbox hg) | ((with_reducible refine gate_dst (N := 3) rfl ?_); refine box_event ?hg (N := 3) ?hd (cs := #[.int .i8 0, .int .i8 0, .int .i8 0, .int .i8 0, .int .i8 0, .int .i8 0]) (t := 59) ?hr ?_; (case hd => rfl); (case hg => rfl); (case hr => first | (go_simp; done) | (go_simp; rfl)); intro gb160 hg w5 hbox hb; have n0_ := Aside0.mk (blk_below (g := gb158) (o := .cells #[.int .i8 a0_0, .int .i8 a0_1, .int .i8 a0_2, .int .i8 a0_3, .int .i8 a0_4, .int .i8 a0_5] 63 (0, 0)) (by (with_reducible repeat (first | refine blk_drewN ?_ _ | refine blk_drew ?_ | refine blk_alloc ?_ _)); exact BK158.out) hb); have n1_ := Aside0.mk (blk_below (g := gb159) (o := .cells #[.int .i8 0, .int .i8 0, .int .i8 0, .int .i8 0, .int .i8 0, .int .i8 0] 59 (0, 0)) (by (with_reducible repeat (first | refine blk_drewN ?_ _ | refine blk_drew ?_ | refine blk_alloc ?_ _)); exact BK159.out) hb); have n2_ := Aside0.mk (below_step (by repeat (first | (with_reducible first | exact HB.out | apply below_alloc | apply pw_below_drewN | apply below_drew1 | refine below_set ?_ GE158.out | refine below_set ?_ GE159.out) | exact HB.out)) hb); have n3_ := Aside0.mk (hbox); have n4_ := Aside0.mk ((by rw [hg]; exact (below_size (by repeat (first | (with_reducible first | exact HB.out | apply below_alloc | apply pw_below_drewN | apply below_drew1 | refine below_set ?_ GE158.out | refine below_set ?_ GE159.out) | exact HB.out))) : w.heap.size ≤ gb160)); have n5_ := Aside0.mk ((by rw [hg]; exact (below_size (by repeat (first | (with_reducible first | exact HB.out | apply below_alloc | apply pw_below_drewN | apply below_drew1 | refine below_set ?_ GE158.out | refine below_set ?_ GE159.out) | exact HB.out))) : w.heap.size ≤ gb160)); have n6_ := Aside0.mk ((by rw [hg]; exact Nat.ne_of_lt (blk_lt (g := gb158) (o := .cells #[.int .i8 a0_0, .int .i8 a0_1, .int .i8 a0_2, .int .i8 a0_3, .int .i8 a0_4, .int .i8 a0_5] 63 (0, 0)) (by (with_reducible repeat (first | refine blk_drewN ?_ _ | refine blk_drew ?_ | refine blk_alloc ?_ _)); exact BK158.out)) : gb158 ≠ gb160)); have n7_ := Aside0.mk ((by rw [hg]; exact Nat.ne_of_gt (blk_lt (g := gb158) (o := .cells #[.int .i8 a0_0, .int .i8 a0_1, .int .i8 a0_2, .int .i8 a0_3, .int .i8 a0_4, .int .i8 a0_5] 63 (0, 0)) (by (with_reducible repeat (first | refine blk_drewN ?_ _ | refine blk_drew ?_ | refine blk_alloc ?_ _)); exact BK158.out)) : gb160 ≠ gb158)); have n8_ := Aside0.mk ((by rw [hg]; exact Nat.ne_of_lt (blk_lt (g := gb159) (o := .cells #[.int .i8 0, .int .i8 0, .int .i8 0, .int .i8 0, .int .i8 0, .int .i8 0] 59 (0, 0)) (by (with_reducible repeat (first | refine blk_drewN ?_ _ | refine blk_drew ?_ | refine blk_alloc ?_ _)); exact BK159.out)) : gb159 ≠ gb160)); have n9_ := Aside0.mk ((by rw [hg]; exact Nat.ne_of_gt (blk_lt (g := gb159) (o := .cells #[.int .i8 0, .int .i8 0, .int .i8 0, .int .i8 0, .int .i8 0, .int .i8 0] 59 (0, 0)) (by (with_reducible repeat (first | refine blk_drewN ?_ _ | refine blk_drew ?_ | refine blk_alloc ?_ _)); exact BK159.out)) : gb160 ≠ gb159)); clear BK158; clear BK159; clear HB; have BK158 := n0_; have BK159 := n1_; have HB := n2_; have BK160 := n3_; have GW160 := n4_; have GE160 := n5_; have NB158_160 := n6_; have NB160_158 := n7_; have NB159_160 := n8_; have NB160_159 := n9_; clear n0_ n1_ n2_ n3_ n4_ n5_ n6_ n7_ n8_ n9_; clear hb hbox hg; have hnb6 := NB158_159.out; have hnc6 := NB159_158.out; have hnb7 := NB158_160.out; have hnc7 := NB160_158.out; have hcz8_0 : w5.cell? ⟨gb158, 0, none⟩ = some (.int .i8 a0_0) := (blk_cell BK158.out 0).trans rfl; have hcz8_1 : w5.cell? ⟨gb158, 1, none⟩ = some (.int .i8 a0_1) := (blk_cell BK158.out 1).trans rfl; have hcz8_2 : w5.cell? ⟨gb158, 2, none⟩ = some (.int .i8 a0_2) := (blk_cell BK158.out 2).trans rfl; have hcz8_3 : w5.cell? ⟨gb158, 3, none⟩ = some (.int .i8 a0_3) := (blk_cell BK158.out 3).trans rfl; have hcz8_4 : w5.cell? ⟨gb158, 4, none⟩ = some (.int .i8 a0_4) := (blk_cell BK158.out 4).trans rfl; have hcz8_5 : w5.cell? ⟨gb158, 5, none⟩ = some (.int .i8 a0_5) := (blk_cell BK158.out 5).trans rfl; have hfz8_0 := blk_frozen BK158.out 0; have hfz8_1 := blk_frozen BK158.out 1; have hfz8_2 := blk_frozen BK158.out 2; have hfz8_3 := blk_frozen BK158.out 3; have hfz8_4 := blk_frozen BK158.out 4; have hfz8_5 := blk_frozen BK158.out 5) | ((with_reducible refine gate_callee (f := 52) rfl ?_); refine goesL_ (some 6) rfl rfl Tryd.func52 (by kernel_rfl) rfl #[.agg #[.int .i8 a0_0, .int .i8 a0_1]] rfl (by (try simp only [List.map_toArray, List.map_cons, List.map_nil]); first | done | rfl | (simp only [List.length_drop, List.length_take]; rfl)) ?_; (with_reducible refine (laws_toPlace.calls a0_0 a0_1 t161 t162 _ A2.out).mono ?_); rintro e w9 ⟨rfl, hb⟩; refine ⟨_, rfl, ?_⟩; have n0_ := Aside0.mk (blk_below (g := gb158) (o := .cells #[.int .i8 a0_0, .int .i8 a0_1, .int .i8 a0_2, .int .i8 a0_3, .int .i8 a0_4, .int .i8 a0_5] 63 (0, 0)) (by (with_reducible repeat (first | refine blk_drewN ?_ _ | refine blk_drew ?_ | refine blk_alloc ?_ _)); exact BK158.out) hb); have n1_ := Aside0.mk (blk_below (g := gb159) (o := .cells #[.int .i8 0, .int .i8 0, .int .i8 0, .int .i8 0, .int .i8 0, .int .i8 0] 59 (0, 0)) (by (with_reducible repeat (first | refine blk_drewN ?_ _ | refine blk_drew ?_ | refine blk_alloc ?_ _)); exact BK159.out) hb); have n2_ := Aside0.mk (blk_below (g := gb160) (o := .cells #[.int .i8 0, .int .i8 0, .int .i8 0, .int .i8 0, .int .i8 0, .int .i8 0] 59 (0, 0)) (by (with_reducible repeat (first | refine blk_drewN ?_ _ | refine blk_drew ?_ | refine blk_alloc ?_ _)); exact BK160.out) hb); have n3_ := Aside0.mk (below_step (by repeat (first | (with_reducible first | exact HB.out | apply below_alloc | apply pw_below_drewN | apply below_drew1 | refine below_set ?_ GE158.out | refine below_set ?_ GE159.out | refine below_set ?_ GE160.out) | exact HB.out)) hb); clear BK158; clear BK159; clear BK160; clear HB; have BK158 := n0_; have BK159 := n1_; have BK160 := n2_; have HB := n3_; clear n0_ n1_ n2_ n3_; (try clear hb); (try clear hb2); (try clear hk); (try clear hi); have hnb10 := NB160_159.out; have hnc10 := NB159_160.out; have hcz11_0 : w9.cell? ⟨gb160, 0, none⟩ = some (.int .i8 0) := (blk_cell BK160.out 0).trans rfl; have hcz11_1 : w9.cell? ⟨gb160, 1, none⟩ = some (.int .i8 0) := (blk_cell BK160.out 1).trans rfl; have hcz11_2 : w9.cell? ⟨gb160, 2, none⟩ = some (.int .i8 0) := (blk_cell BK160.out 2).trans rfl; have hcz11_3 : w9.cell? ⟨gb160, 3, none⟩ = some (.int .i8 0) := (blk_cell BK160.out 3).trans rfl; have hcz11_4 : w9.cell? ⟨gb160, 4, none⟩ = some (.int .i8 0) := (blk_cell BK160.out 4).trans rfl; have hcz11_5 : w9.cell? ⟨gb160, 5, none⟩ = some (.int .i8 0) := (blk_cell BK160.out 5).trans rfl; have hfz11_0 := blk_frozen BK160.out 0; have hfz11_1 := blk_frozen BK160.out 1; have hfz11_2 := blk_frozen BK160.out 2; have hfz11_3 := blk_frozen BK160.out 3; have hfz11_4 := blk_frozen BK160.out 4; have hfz11_5 := blk_frozen BK160.out 5; have hcz12_0 : w9.cell? ⟨gb158, 0, none⟩ = some (.int .i8 a0_0) := (blk_cell BK158.out 0).trans rfl; have hcz12_1 : w9.cell? ⟨gb158, 1, none⟩ = some (.int .i8 a0_1) := (blk_cell BK158.out 1).trans rfl; have hcz12_2 : w9.cell? ⟨gb158, 2, none⟩ = some (.int .i8 a0_2) := (blk_cell BK158.out 2).trans rfl; have hcz12_3 : w9.cell? ⟨gb158, 3, none⟩ = some (.int .i8 a0_3) := (blk_cell BK158.out 3).trans rfl; have hcz12_4 : w9.cell? ⟨gb158, 4, none⟩ = some (.int .i8 a0_4) := (blk_cell BK158.out 4).trans rfl; have hcz12_5 : w9.cell? ⟨gb158, 5, none⟩ = some (.int .i8 a0_5) := (blk_cell BK158.out 5).trans rfl; have hfz12_0 := blk_frozen BK158.out 0; have hfz12_1 := blk_frozen BK158.out 1; have hfz12_2 := blk_frozen BK158.out 2; have hfz12_3 := blk_frozen BK158.out 3; have hfz12_4 := blk_frozen BK158.out 4; have hfz12_5 := blk_frozen BK158.out 5; have hcz13_0 : w9.cell? ⟨gb159, 0, none⟩ = some (.int .i8 0) := (blk_cell BK159.out 0).trans rfl; have hcz13_1 : w9.cell? ⟨gb159, 1, none⟩ = some (.int .i8 0) := (blk_cell BK159.out 1).trans rfl; have hcz13_2 : w9.cell? ⟨gb159, 2, none⟩ = some (.int .i8 0) := (blk_cell BK159.out 2).trans rfl; have hcz13_3 : w9.cell? ⟨gb159, 3, none⟩ = some (.int .i8 0) := (blk_cell BK159.out 3).trans rfl; have hcz13_4 : w9.cell? ⟨gb159, 4, none⟩ = some (.int .i8 0) := (blk_cell BK159.out 4).trans rfl; have hcz13_5 : w9.cell? ⟨gb159, 5, none⟩ = some (.int .i8 0) := (blk_cell BK159.out 5).trans rfl; have hfz13_0 := blk_frozen BK159.out 0; have hfz13_1 := blk_frozen BK159.out 1; have hfz13_2 := blk_frozen BK159.out 2; have hfz13_3 := blk_frozen BK159.out 3; have hfz13_4 := blk_frozen BK159.out 4; have hfz13_5 := blk_frozen BK159.out 5))
  refine bodyPost_ret (results_cell_row rfl _ _ gb159 59 #[.int .i8 t161, .int .i8 t162, .int .i8 a0_2, .int .i8 a0_3, .int .i8 a0_4, .int .i8 a0_5] (0, 0) _ rfl (by (with_reducible repeat (first | refine blk_drewN ?_ _ | refine blk_drew ?_ | refine blk_alloc ?_ _)); refine blk_put (cs := #[.int .i8 t161, .int .i8 t162, .int .i8 a0_2, .int .i8 a0_3, .int .i8 a0_4, .int .i8 0]) ?_ 5 _ rfl; (with_reducible repeat (first | refine blk_drewN ?_ _ | refine blk_drew ?_ | refine blk_alloc ?_ _)); refine blk_put (cs := #[.int .i8 t161, .int .i8 t162, .int .i8 a0_2, .int .i8 a0_3, .int .i8 0, .int .i8 0]) ?_ 4 _ rfl; (with_reducible repeat (first | refine blk_drewN ?_ _ | refine blk_drew ?_ | refine blk_alloc ?_ _)); refine blk_put (cs := #[.int .i8 t161, .int .i8 t162, .int .i8 a0_2, .int .i8 0, .int .i8 0, .int .i8 0]) ?_ 3 _ rfl; (with_reducible repeat (first | refine blk_drewN ?_ _ | refine blk_drew ?_ | refine blk_alloc ?_ _)); refine blk_put (cs := #[.int .i8 t161, .int .i8 t162, .int .i8 0, .int .i8 0, .int .i8 0, .int .i8 0]) ?_ 2 _ rfl; (with_reducible repeat (first | refine blk_drewN ?_ _ | refine blk_drew ?_ | refine blk_alloc ?_ _)); refine blk_put (cs := #[.int .i8 t161, .int .i8 0, .int .i8 0, .int .i8 0, .int .i8 0, .int .i8 0]) ?_ 1 _ rfl; (with_reducible repeat (first | refine blk_drewN ?_ _ | refine blk_drew ?_ | refine blk_alloc ?_ _)); refine blk_put (cs := #[.int .i8 0, .int .i8 0, .int .i8 0, .int .i8 0, .int .i8 0, .int .i8 0]) ?_ 0 _ rfl; (with_reducible repeat (first | refine blk_drewN ?_ _ | refine blk_drew ?_ | refine blk_alloc ?_ _)); refine blk_far ?_ NB159_160.out _; (with_reducible repeat (first | refine blk_drewN ?_ _ | refine blk_drew ?_ | refine blk_alloc ?_ _)); refine blk_far ?_ NB159_160.out _; (with_reducible repeat (first | refine blk_drewN ?_ _ | refine blk_drew ?_ | refine blk_alloc ?_ _)); refine blk_far ?_ NB159_160.out _; (with_reducible repeat (first | refine blk_drewN ?_ _ | refine blk_drew ?_ | refine blk_alloc ?_ _)); refine blk_far ?_ NB159_160.out _; (with_reducible repeat (first | refine blk_drewN ?_ _ | refine blk_drew ?_ | refine blk_alloc ?_ _)); refine blk_far ?_ NB159_160.out _; (with_reducible repeat (first | refine blk_drewN ?_ _ | refine blk_drew ?_ | refine blk_alloc ?_ _)); refine blk_far ?_ NB159_160.out _; (with_reducible repeat (first | refine blk_drewN ?_ _ | refine blk_drew ?_ | refine blk_alloc ?_ _)); exact BK159.out) Tryd.underlying59 rfl (by kernel_rfl)) rfl ?_
  exact ⟨by first | rfl | (simp [errW_none, errW_some] <;> rfl) | (simp [*, errW_none, errW_some] <;> rfl), by repeat (first | (with_reducible first | exact HB.out | apply below_alloc | apply pw_below_drewN | apply below_drew1 | refine below_set ?_ GE158.out | refine below_set ?_ GE159.out | refine below_set ?_ GE160.out) | exact HB.out)⟩

/-! ### laws_toBoatS: function 12 -/
def laws_toBoatS.l0 : Nat → List (S63) → List (S59) → Int → Option ((List (S59)))
  | 0, _, _, _ => none
  | k + 1, x0, x3, x4 => if x4 < (x0.length : Int) then (if 0 ≤ x4 then ((laws_toBoat.f ((rd_T63 x0 x4).f0.f0) ((rd_T63 x0 x4).f0.f1) ((rd_T63 x0 x4).f1) ((rd_T63 x0 x4).f2) ((rd_T63 x0 x4).f3) ((rd_T63 x0 x4).f4)).bind fun bt167 => (if x4 < (x3.length : Int) then (laws_toBoatS.l0 k x0 (x3.set (x4 : Int).toNat (⟨(⟨bt167.1, bt167.2.1⟩ : S57), bt167.2.2.1, bt167.2.2.2.1, bt167.2.2.2.2.1, bt167.2.2.2.2.2⟩ : S59)) (wrap64 (x4 + 1))) else (none))) else (none)) else (some x3)
def laws_toBoatS.f (k : Nat) (l0 : List (S63)) : Option ((List (S59))) := if 0 ≤ (l0.length : Int) then (if ((l0.length : Int) : Int).toNat ≤ 46912496118442 then (laws_toBoatS.l0 k l0 (List.replicate ((l0.length : Int) : Int).toNat z59) 0) else (none)) else (none)
theorem laws_toBoatS.mono_l : ∀ k, (∀ y0 y1 y2, LeO (laws_toBoatS.l0 k y0 y1 y2) (laws_toBoatS.l0 (k + 1) y0 y1 y2))
  | 0 => fun _ _ _ r h => by simp [laws_toBoatS.l0] at h
  | k + 1 => by
    have ih0 := laws_toBoatS.mono_l k
    · intro y0 y1 y2
      unfold laws_toBoatS.l0
      repeat' first
      | (with_reducible exact ih0 _ _ _)
      | (with_reducible exact LeO.refl _)
      | (with_reducible exact LeO.none _)
      | (with_reducible refine LeO.ite ?_ ?_)
      | (with_reducible refine LeO.bind ?_ (fun _ => ?_))
      | exact ih0 _ _ _
      | exact LeO.none _
      | refine LeO.ite ?_ ?_
      | refine LeO.bind ?_ (fun _ => ?_)
theorem laws_toBoatS.mono : ∀ a0 k, LeO (laws_toBoatS.f k a0) (laws_toBoatS.f (k + 1) a0) := by
  intro a0 k
  have ih0 := laws_toBoatS.mono_l k
  unfold laws_toBoatS.f
  repeat' first
      | (with_reducible exact ih0 _ _ _)
      | (with_reducible exact LeO.refl _)
      | (with_reducible exact LeO.none _)
      | (with_reducible refine LeO.ite ?_ ?_)
      | (with_reducible refine LeO.bind ?_ (fun _ => ?_))
      | exact ih0 _ _ _
      | exact LeO.none _
      | refine LeO.ite ?_ ?_
      | refine LeO.bind ?_ (fun _ => ?_)
set_option maxHeartbeats 8000000 in
set_option maxRecDepth 100000 in
theorem laws_toBoatS.calls (k : Nat) (A0 : Option Addr) (c0 : Nat) (l0 : List (S63)) (r : List (S59)) (w : World) (hr0 : Kd.C k63 w A0 l0.length l0) (hc0 : l0.length ≤ c0) (h : laws_toBoatS.f k l0 = some r) :
    Calls Tryd.prog 12 #[.slice A0 l0.length c0] w fun e w' => ∃ v0_ : Value, e = .returned (v0_) ∧ Kd.R k59 59 w' w.heap.size (fun _ => True) v0_ r ∧ Below w.heap.size w w' := by
  have hu63 := Tryd.underlying63
  have hu59 := Tryd.underlying59
  have HR0 := Aside0.mk hr0
  have HC0 := Aside0.mk hc0
  clear hr0 hc0
  have HB := Aside0.mk (Below.refl w.heap.size w)
  have H : (if 0 ≤ (l0.length : Int) then (if ((l0.length : Int) : Int).toNat ≤ 46912496118442 then (laws_toBoatS.l0 k l0 (List.replicate ((l0.length : Int) : Int).toNat z59) 0) else (none)) else (none)) = some r := h
  clear h
  by_cases c2 : 0 ≤ (l0.length : Int)
  · rw [if_pos c2] at H
    have c2b0 := eq_true c2
    have c2b1 : decide (0 ≤ (l0.length : Int)) = true := decide_eq_true c2
    clear c2
    by_cases c3 : ((l0.length : Int) : Int).toNat ≤ 46912496118442
    · rw [if_pos c3] at H
      have c3b0 := eq_true c3
      have c3b1 : decide (((l0.length : Int) : Int).toNat ≤ 46912496118442) = true := decide_eq_true c3
      clear c3
      obtain ⟨y163, hy163⟩ : ∃ y_ : List (S59), y_ = (List.replicate ((l0.length : Int) : Int).toNat z59) := ⟨_, rfl⟩
      replace H : (laws_toBoatS.l0 k l0 y163 0) = some r := by first | (rw [hy163]; with_reducible exact H) | (have H2_ := (Option.bind_some _ _).symm.trans H; rw [hy163]; with_reducible exact H2_) | (have H2_ := (Option.bind_some _ _).symm.trans H; with_reducible exact H2_) | with_reducible exact H | (rw [hy163]; exact H) | exact H
      have Ny163 := Aside0.mk hy163
      clear hy163
      have H' := Aside0.mk H
      clear H
      go_enter Tryd.func12, Tryd.ntmps12
      go_wp2_with (first | ((with_reducible refine gate_dst (N := 7) rfl ?_); refine Kd.R_make k59 _ 59 rfl (N := 7) rfl 34 _ _ rfl (l0.length : Int) rfl rfl Tryd.underlying34 (.agg #[(.int .i8 0), (.int .i8 0), (.int .i8 0), (.int .i8 0), (.int .i8 0), (.int .i8 0)]) 6 info59 rfl (by decide) (by omega) z59 (ok := fun _ => True) (okp := fun _ => True) (k59_mkM _ _ _ z59 ) (fun _ hk => hk) trivial (of_decide_eq_true (by first | (with_reducible assumption) | assumption)) (Nat.le_trans (Nat.mul_le_mul_right _ (of_decide_eq_true (by first | (with_reducible assumption) | assumption) : (l0.length : Int).toNat ≤ 46912496118442)) (by omega)) (Below.refl _ _) (Nat.le_refl _) ?_; intro v164 w4 ho5 hb hg_ hnew_; clear hg_ hnew_; (first | rw [← Ny163.out] at ho5 | (simp only [Int.reduceToNat] at ho5; rw [← Ny163.out] at ho5)); have n0_ := Aside0.mk (Kd.R_lower ho5 (below_size (by repeat (first | (with_reducible first | exact HB.out | apply below_alloc | apply pw_below_drewN | apply below_drew1) | exact HB.out)))); have n1_ := Aside0.mk (below_step (by repeat (first | (with_reducible first | exact HB.out | apply below_alloc | apply pw_below_drewN | apply below_drew1) | exact HB.out)) hb); clear HB; have HO165 := n0_; have HB := n1_; clear n0_ n1_; clear hb ho5))
      go_loopg [4] k (fun kq v4 w' => ∃ (x3_1 : List (S59)) (x4_1 : Int), v4 = .int .i64 x4_1 ∧ Aside0 (laws_toBoatS.l0 kq l0 x3_1 x4_1 = some r) ∧ Aside0 (kq ≤ k) ∧ Aside0 (Kd.R k59 59 w' w.heap.size (fun _ => True) v164 x3_1) ∧ Aside0 (Below w.heap.size w w'))
      case atStart => exact ⟨(y163), (0), (by first | rfl | (simp; done) | (simp [*]; done) | (rw [i8_wrap_le] <;> first | rfl | omega)), H', ⟨Nat.le_refl _⟩, ⟨by (with_reducible repeat (first | apply Kd.R_alloc | apply Kd.R_drewN | apply Kd.R_drew)); exact HO165.out⟩, ⟨by repeat (first | (with_reducible first | exact HB.out | apply below_alloc | apply pw_below_drewN | apply below_drew1) | exact HB.out)⟩⟩
      case round =>
        clear H'
        try clear c1
        try clear c2
        try clear c2b0
        try clear c2b1
        try clear p2
        try clear c3
        try clear c3b0
        try clear c3b1
        obtain ⟨x3_1, x4_1, rfl, HA, HK1, HO_3, HB⟩ := hrel
        cases gk with
        | zero => exact absurd HA.out (by simp [laws_toBoatS.l0])
        | succ k1 =>
          have H := HA.out
          clear HA
          simp only [laws_toBoatS.l0] at H
          by_cases c6 : x4_1 < (l0.length : Int)
          · rw [if_pos c6] at H
            have c6b0 : decide (x4_1 < (l0.length : Int)) = true := decide_eq_true c6
            clear c6
            by_cases c7 : 0 ≤ x4_1
            · rw [if_pos c7] at H
              have c7b0 : decide (0 ≤ x4_1) = true := decide_eq_true c7
              have c7b1 : 0 ≤ x4_1 := c7
              clear c7
              replace H := Option.bind_eq_some_iff.mp H
              obtain ⟨⟨t167, t168, t169, t170, t171, t172⟩, A80, H⟩ := H
              replace H : (if x4_1 < (x3_1.length : Int) then (laws_toBoatS.l0 k1 l0 (x3_1.set (x4_1 : Int).toNat (⟨(⟨t167, t168⟩ : S57), t169, t170, t171, t172⟩ : S59)) (wrap64 (x4_1 + 1))) else (none)) = some r := H
              have A8 := Aside0.mk A80
              clear A80
              by_cases c9 : x4_1 < (x3_1.length : Int)
              · rw [if_pos c9] at H
                have c9b0 : decide (x4_1 < (x3_1.length : Int)) = true := decide_eq_true c9
                clear c9
                obtain ⟨y173, hy173⟩ : ∃ y_ : List (S59), y_ = (x3_1.set (x4_1 : Int).toNat (⟨(⟨t167, t168⟩ : S57), t169, t170, t171, t172⟩ : S59)) := ⟨_, rfl⟩
                replace H : (laws_toBoatS.l0 k1 l0 y173 (wrap64 (x4_1 + 1))) = some r := by first | (rw [hy173]; with_reducible exact H) | (have H2_ := (Option.bind_some _ _).symm.trans H; rw [hy173]; with_reducible exact H2_) | (have H2_ := (Option.bind_some _ _).symm.trans H; with_reducible exact H2_) | with_reducible exact H | (rw [hy173]; exact H) | exact H
                have Ny173 := Aside0.mk hy173
                clear hy173
                have H' := Aside0.mk H
                clear H
                have p166 : 0 ≤ (x4_1 : Int) := of_decide_eq_true (by first | (with_reducible assumption) | assumption)
                have q166 : x4_1 < (l0.length : Int) := of_decide_eq_true (by first | (with_reducible assumption) | assumption)
                obtain ⟨ad166, e166, hx166_0, hx166_1, hx166_2, hx166_3, hx166_4, hx166_5⟩ := at_T63 HR0.out x4_1 p166 q166
                cases e166
                replace hx166_0 := (HB.out.cell (World.block_lt_of_cell? w _ hx166_0)).trans hx166_0
                replace hx166_1 := (HB.out.cell (World.block_lt_of_cell? w _ hx166_1)).trans hx166_1
                replace hx166_2 := (HB.out.cell (World.block_lt_of_cell? w _ hx166_2)).trans hx166_2
                replace hx166_3 := (HB.out.cell (World.block_lt_of_cell? w _ hx166_3)).trans hx166_3
                replace hx166_4 := (HB.out.cell (World.block_lt_of_cell? w _ hx166_4)).trans hx166_4
                replace hx166_5 := (HB.out.cell (World.block_lt_of_cell? w _ hx166_5)).trans hx166_5
                replace p166 := eq_true p166
                replace q166 := eq_true q166
                go_wp2_with (first | ((with_reducible refine gate_callee (f := 30) rfl ?_); refine goesL_ (some 20) rfl rfl Tryd.func30 (by kernel_rfl) rfl #[.agg #[.int .i8 ((rd_T63 l0 x4_1).f0.f0), .int .i8 ((rd_T63 l0 x4_1).f0.f1), .int .i8 ((rd_T63 l0 x4_1).f1), .int .i8 ((rd_T63 l0 x4_1).f2), .int .i8 ((rd_T63 l0 x4_1).f3), .int .i8 ((rd_T63 l0 x4_1).f4)]] rfl (by (try simp only [List.map_toArray, List.map_cons, List.map_nil]); first | done | rfl | (simp only [List.length_drop, List.length_take]; rfl)) ?_; (with_reducible refine (laws_toBoat.calls ((rd_T63 l0 x4_1).f0.f0) ((rd_T63 l0 x4_1).f0.f1) ((rd_T63 l0 x4_1).f1) ((rd_T63 l0 x4_1).f2) ((rd_T63 l0 x4_1).f3) ((rd_T63 l0 x4_1).f4) t167 t168 t169 t170 t171 t172 _ A8.out).mono ?_); rintro e w11 ⟨rfl, hb⟩; refine ⟨_, rfl, ?_⟩; have n0_ := Aside0.mk (Kd.R_below (by (with_reducible repeat (first | apply Kd.R_alloc | apply Kd.R_drewN | apply Kd.R_drew)); exact HO_3.out) hb); have n1_ := Aside0.mk (below_step (by repeat (first | (with_reducible first | exact HB.out | apply below_alloc | apply pw_below_drewN | apply below_drew1) | exact HB.out)) hb); clear HO_3; clear HB; have HO_3 := n0_; have HB := n1_; clear n0_ n1_; (try clear hb); (try clear hb2); (try clear hk); (try clear hi); have p10 : 0 ≤ (x4_1 : Int) := of_decide_eq_true (by first | (with_reducible assumption) | assumption); have q10 : (x4_1 : Int) < ((x3_1.length : Int) : Int) := of_decide_eq_true (by first | (with_reducible assumption) | assumption); obtain ⟨go10, co10, eo10, gb10, gl10, cl10, HG10⟩ := Kd.R_form HO_3.out (by omega); (first | cases eo10 | (injection eo10 with ea_ en_ ec_; (first | subst ea_ | (injection ea_ with ea_; subst ea_)); subst ec_; clear en_)); have GB10 := Aside0.mk gb10; have GG10 := Aside0.mk HG10; clear gb10 gl10 HG10; obtain ⟨ce10, hcl10, hM10, hcc10, hfr10⟩ := Kd.R_elem HO_3.out z59 (x4_1 : Int) p10 q10; obtain rfl := k59_openM hM10; have hx10_0 : w11.cell? ⟨go10, (x4_1 : Int).toNat * 6, none⟩ = some (.int .i8 ((rd_T59 x3_1 x4_1).f0.f0)) := hcc10 0 _ rfl; have hx10_1 : w11.cell? ⟨go10, (x4_1 : Int).toNat * 6 + 1, none⟩ = some (.int .i8 ((rd_T59 x3_1 x4_1).f0.f1)) := hcc10 1 _ rfl; have hx10_2 : w11.cell? ⟨go10, (x4_1 : Int).toNat * 6 + 2, none⟩ = some (.int .i8 ((rd_T59 x3_1 x4_1).f1)) := hcc10 2 _ rfl; have hx10_3 : w11.cell? ⟨go10, (x4_1 : Int).toNat * 6 + 3, none⟩ = some (.int .i8 ((rd_T59 x3_1 x4_1).f2)) := hcc10 3 _ rfl; have hx10_4 : w11.cell? ⟨go10, (x4_1 : Int).toNat * 6 + 4, none⟩ = some (.int .i8 ((rd_T59 x3_1 x4_1).f3)) := hcc10 4 _ rfl; have hx10_5 : w11.cell? ⟨go10, (x4_1 : Int).toNat * 6 + 5, none⟩ = some (.int .i8 ((rd_T59 x3_1 x4_1).f4)) := hcc10 5 _ rfl; have hf10_0 : w11.frozen? ⟨go10, (x4_1 : Int).toNat * 6, none⟩ = false := hfr10 0; have hf10_1 : w11.frozen? ⟨go10, (x4_1 : Int).toNat * 6 + 1, none⟩ = false := hfr10 1; have hf10_2 : w11.frozen? ⟨go10, (x4_1 : Int).toNat * 6 + 2, none⟩ = false := hfr10 2; have hf10_3 : w11.frozen? ⟨go10, (x4_1 : Int).toNat * 6 + 3, none⟩ = false := hfr10 3; have hf10_4 : w11.frozen? ⟨go10, (x4_1 : Int).toNat * 6 + 4, none⟩ = false := hfr10 4; have hf10_5 : w11.frozen? ⟨go10, (x4_1 : Int).toNat * 6 + 5, none⟩ = false := hfr10 5; clear hcl10 hcc10 hfr10 hM10; replace p10 := eq_true p10; replace q10 := eq_true q10; have HX12 := Aside0.mk (show Kd.R k59 59 w11 w.heap.size (fun _ => True) (.slice (some ⟨go10, 0, none⟩) x3_1.length co10) x3_1 from (by (with_reducible repeat (first | apply Kd.R_alloc | apply Kd.R_drewN | apply Kd.R_drew)); exact HO_3.out)); obtain ⟨ce12, hcl12, hM12, hcc12, hfr12⟩ := Kd.R_elem HX12.out z59 (x4_1 : Int) (of_decide_eq_true (by first | (with_reducible assumption) | assumption)) (by have h_ : (x4_1 : Int) < ((x3_1.length : Int) : Int) := of_decide_eq_true (by first | (with_reducible assumption) | assumption); first | exact h_ | (have e_ := (Kd.R_reads' HO_3.out).1; omega) | simpa using h_); obtain rfl := k59_openM hM12; have HP12 := Kd.R_seg HX12.out (x4_1 : Int) (of_decide_eq_true (by first | (with_reducible assumption) | assumption)) (by have h_ : (x4_1 : Int) < ((x3_1.length : Int) : Int) := of_decide_eq_true (by first | (with_reducible assumption) | assumption); first | exact h_ | (have e_ := (Kd.R_reads' HO_3.out).1; omega) | simpa using h_) (seg := [.int .i8 t167, .int .i8 t168, .int .i8 t169, .int .i8 t170, .int .i8 t171, .int .i8 t172]) (j := 0) hcl12 hcc12 (show 6 ≤ 6 from by decide) (x' := (⟨(⟨t167, t168⟩ : S57), t169, t170, t171, t172⟩ : S59)) (k59_mkM _ _ _ (⟨(⟨t167, t168⟩ : S57), t169, t170, t171, t172⟩ : S59) ) (fun _ hk => hk); have hx12_0 := hcc12 0 _ rfl; (try simp only [show (k59).sz = 6 from rfl, Nat.mul_one, Nat.add_zero] at hx12_0); have hf12_0 := hfr12 0; (try simp only [show (k59).sz = 6 from rfl, Nat.mul_one, Nat.add_zero] at hf12_0); have hx12_1 := hcc12 1 _ rfl; (try simp only [show (k59).sz = 6 from rfl, Nat.mul_one, Nat.add_zero] at hx12_1); have hf12_1 := hfr12 1; (try simp only [show (k59).sz = 6 from rfl, Nat.mul_one, Nat.add_zero] at hf12_1); have hx12_2 := hcc12 2 _ rfl; (try simp only [show (k59).sz = 6 from rfl, Nat.mul_one, Nat.add_zero] at hx12_2); have hf12_2 := hfr12 2; (try simp only [show (k59).sz = 6 from rfl, Nat.mul_one, Nat.add_zero] at hf12_2); have hx12_3 := hcc12 3 _ rfl; (try simp only [show (k59).sz = 6 from rfl, Nat.mul_one, Nat.add_zero] at hx12_3); have hf12_3 := hfr12 3; (try simp only [show (k59).sz = 6 from rfl, Nat.mul_one, Nat.add_zero] at hf12_3); have hx12_4 := hcc12 4 _ rfl; (try simp only [show (k59).sz = 6 from rfl, Nat.mul_one, Nat.add_zero] at hx12_4); have hf12_4 := hfr12 4; (try simp only [show (k59).sz = 6 from rfl, Nat.mul_one, Nat.add_zero] at hf12_4); have hx12_5 := hcc12 5 _ rfl; (try simp only [show (k59).sz = 6 from rfl, Nat.mul_one, Nat.add_zero] at hx12_5); have hf12_5 := hfr12 5; (try simp only [show (k59).sz = 6 from rfl, Nat.mul_one, Nat.add_zero] at hf12_5); clear hcl12 hcc12 hfr12 hM12) | ((with_reducible refine gate_store (t := 59) (p := 21) rfl ?_); refine store_event (t := 59) (p := 21) (v := ?vo_w13) (w1 := ((((((w11.setCell ⟨go10, (x4_1 : Int).toNat * 6, none⟩ (.int .i8 t167)).setCell ⟨go10, (x4_1 : Int).toNat * 6 + 1, none⟩ (.int .i8 t168)).setCell ⟨go10, (x4_1 : Int).toNat * 6 + 2, none⟩ (.int .i8 t169)).setCell ⟨go10, (x4_1 : Int).toNat * 6 + 3, none⟩ (.int .i8 t170)).setCell ⟨go10, (x4_1 : Int).toNat * 6 + 4, none⟩ (.int .i8 t171)).setCell ⟨go10, (x4_1 : Int).toNat * 6 + 5, none⟩ (.int .i8 t172))) ?hg ?ho ?hn ?hr ?_; (case ho => rfl); (case hg => rfl); (case hn => rfl); (case hr => first | (go_simp; done) | (go_simp; rfl)); intro w13 hw; have hg : w11.grownBy w13 (some go10) := (by rw [hw]; exact HP12.2); have hp_ : Kd.R k59 59 w13 w.heap.size (fun _ => True) (.slice (some ⟨go10, 0, none⟩) x3_1.length co10) y173 := (by rw [hw, Ny173.out]; exact HP12.1); clear HP12; have n0_ := Aside0.mk (hp_); have n1_ := Aside0.mk ((by rw [hw]; exact below_set (below_set (below_set (below_set (below_set (below_set (HB.out) GB10.out) GB10.out) GB10.out) GB10.out) GB10.out) GB10.out : Below w.heap.size w w13)); clear HO_3; clear HB; have HO_3 := n0_; have HB := n1_; clear n0_ n1_; clear hg hw hp_))
                go_roundg k1
                case measure => have := HK1.out; omega
                case rel => exact ⟨(y173), (wrap64 (x4_1 + 1)), (by first | rfl | (simp; done) | (simp [*]; done) | (rw [i8_wrap_le] <;> first | rfl | omega)), H', ⟨by have := HK1.out; omega⟩, ⟨by (with_reducible repeat (first | apply Kd.R_alloc | apply Kd.R_drewN | apply Kd.R_drew)); exact HO_3.out⟩, ⟨by repeat (first | (with_reducible first | exact HB.out | apply below_alloc | apply pw_below_drewN | apply below_drew1) | exact HB.out)⟩⟩
              · rw [if_neg c9] at H
                exact absurd H (by simp)
            · rw [if_neg c7] at H
              exact absurd H (by simp)
          · rw [if_neg c6] at H
            have c6b0 : decide (x4_1 < (l0.length : Int)) = false := decide_eq_false c6
            clear c6
            obtain rfl := Option.some.inj H
            go_wp2
            go_ret
            exact ⟨_, by first | rfl | (simp [errW_none, errW_some] <;> rfl) | (simp [*, errW_none, errW_some] <;> rfl), by (with_reducible repeat (first | apply Kd.R_alloc | apply Kd.R_drewN | apply Kd.R_drew)); exact HO_3.out, by repeat (first | (with_reducible first | exact HB.out | apply below_alloc | apply pw_below_drewN | apply below_drew1) | exact HB.out)⟩
    · rw [if_neg c3] at H
      exact absurd H (by simp)
  · rw [if_neg c2] at H
    exact absurd H (by simp)

/-! ### strconv_FormatInt: function 48 -/
def strconv_FormatInt.f (a0 : Int) (a1 : Int) : Option ByteArray := if a1 = 10 ∧ -9223372036854775808 ≤ a0 ∧ a0 ≤ 9223372036854775807 then some ⟨(Go.Lib.itoa a0).toArray⟩ else none
theorem strconv_FormatInt.calls (a0 : Int) (a1 : Int) (r : ByteArray) (w : World) (h : strconv_FormatInt.f a0 a1 = some r) (htb : Go.Proofs.YteffdjfiialdfaaDoor.Shelf.TBa w) :
    Calls Tryd.prog 48 #[.int .i64 a0, .int .i64 a1] w fun e w' => e = .returned (.string r) ∧ Below w.heap.size w w' :=
  Go.Proofs.YteffdjfiialdfaaDoor.Shelf.format_calls a0 a1 r w h htb

end Go.Proofs.YteffdjfiialdfaaDoor.PFnExactBoatsText
