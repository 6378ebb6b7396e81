-- Written by a program out of this seat's translation (functions, and that the code comes to them).
import Derived.Test.YtigafbmdedjgdaaPFnExactMostBoatsx0
import Derived.Test.YtigafbmdedjgdaaPFnExactMostBoatsx11
namespace Go.Proofs.Ytigafbmdedjgdaa.PFnExactMostBoats
open Go.RowKit Go.Proofs.YtigafbmdedjgdaaW.PrintWords Go.Proofs.YtigafbmdedjgdaaW.PrintLast Go.Proofs.YtigafbmdedjgdaaW.PrintMore
attribute [local go_sem] max2_int min2_int max_two min_two max_three min_three max_four min_four   -- for this text's walks alone
open Go.Proofs.Ytigafbmdedjgdaa.Bay Go.Proofs.Ytigafbmdedjgdaa.Short
attribute [local go_sem ↓] lv26_eq lv32_eq
attribute [local go_sem] lvv_set lvv_drewN lvv_drew lv26_run BayAt26_set BayAt26_drewN BayAt26_drew lv32_run BayAt32_set BayAt32_drewN BayAt32_drew
set_option linter.unusedVariables false
set_option linter.unusedSimpArgs false

/-! ### impl_MostBoats_1: function 19 -/
mutual
def impl_MostBoats_1.j0 : Nat → Int → List Int → List (S48) → List Int → List (S48) → Int → Int → (Nat → Int) → Option (List Int)
 | 0, _, _, _, _, _, _, _, _ => none
 | k + 1, x0, x1, x2, xb, x352000, x353000, x353001, x353002 => impl_MostBoats_1.l0 k x1 x2 x0 xb x352000 x353000 x353001 x353002
def impl_MostBoats_1.l0 : Nat → List Int → List (S48) → Int → List Int → List (S48) → Int → Int → (Nat → Int) → Option (List Int)
 | 0, _, _, _, _, _, _, _, _ => none
 | k + 1, x1, x2, x10, xb, x352000, x353000, x353001, x353002 => if x10 < (x352000.length : Int) then (if 0 ≤ x10 then ((impl_comes.f k x353000 x353001 x353002 x2 ((rd_T48 x352000 x10).f0.f0) ((rd_T48 x352000 x10).f0.f1) ((rd_T48 x352000 x10).f1) ((rd_T48 x352000 x10).f2) ((rd_T48 x352000 x10).f3) ((rd_T48 x352000 x10).f4)).bind fun t361 => (if t361 = true then ((some (([] : List Int) : List Int)).bind fun y362 => (if y362.length + x1.length < 17592186044416 then ((some (y362 ++ x1 : List Int)).bind fun y365 => ((some (([x10] : List Int) : List Int)).bind fun y368 => (if y365.length + y368.length < 17592186044416 then ((some (([] : List (S48)) : List (S48))).bind fun y374 => (if y374.length + x2.length < 23456248059221 then ((some (y374 ++ x2 : List (S48))).bind fun y377 => ((some (([(⟨(⟨(rd_T48 x352000 x10).f0.f0, (rd_T48 x352000 x10).f0.f1⟩ : S46), (rd_T48 x352000 x10).f1, (rd_T48 x352000 x10).f2, (rd_T48 x352000 x10).f3, (rd_T48 x352000 x10).f4⟩ : S48)] : List (S48)) : List (S48))).bind fun y381 => (if y377.length + y381.length < 23456248059221 then ((if ((y365 ++ y368).length : Int) > (xb.length : Int) then (if (([] : List Int)).length + (y365 ++ y368).length < 17592186044416 then (impl_MostBoats_1.j0 k (wrap64 (x10 + 1)) (y365 ++ y368) (y377 ++ y381) (([] : List Int) ++ (y365 ++ y368)) x352000 x353000 x353001 x353002) else (none)) else (impl_MostBoats_1.j0 k (wrap64 (x10 + 1)) (y365 ++ y368) (y377 ++ y381) xb x352000 x353000 x353001 x353002)).bind fun xc => (impl_MostBoats_1.l0 k x1 x2 (wrap64 (x10 + 1)) xc x352000 x353000 x353001 x353002)) else (none)))) else (none))) else (none)))) else (none))) else (impl_MostBoats_1.l0 k x1 x2 (wrap64 (x10 + 1)) xb x352000 x353000 x353001 x353002))) else (none)) else (some xb)
end
def impl_MostBoats_1.f (k : Nat) (a0 : Int) (l1 : List Int) (l2 : List (S48)) (l3 : List Int) (l4_0 : List (S48)) (a5_0 : Int) (a5_1 : Int) (a5_2 : (Nat → Int)) : Option (List Int) := if (l1.length : Int) > (l3.length : Int) then (if (([] : List Int)).length + l1.length < 17592186044416 then (impl_MostBoats_1.j0 k a0 l1 l2 (([] : List Int) ++ l1) l4_0 a5_0 a5_1 a5_2) else (none)) else (impl_MostBoats_1.j0 k a0 l1 l2 l3 l4_0 a5_0 a5_1 a5_2)
/-- What a call of the search may change: the variable at block gb alone. -/
def KB (gb : Nat) (w w' : World) : Prop := w'.os = w.os ∧ w'.tape = w.tape ∧ w'.output = w.output ∧ Kept w w' (fun k => k = gb)
theorem KB.of_below {gb : Nat} {w w' : World} (h : Below w.heap.size w w') : KB gb w w' := ⟨h.os, h.tape, h.output, Kept.of_below h _⟩
theorem KB.trans {gb : Nat} {w w1 w2 : World} (h : KB gb w w1) (k : KB gb w1 w2) : KB gb w w2 := ⟨k.1.trans h.1, k.2.1.trans h.2.1, k.2.2.1.trans h.2.2.1, h.2.2.2.then_ k.2.2.2 (fun _ hk => .inl hk)⟩
theorem KB.set {gb : Nat} {w W : World} (h : KB gb w W) (u : Value) : KB gb w (W.setCell ⟨gb, 0, none⟩ u) := ⟨h.1, h.2.1, h.2.2.1, h.2.2.2.setCell (.inl rfl) u⟩
/-- The closure as a value. -/
abbrev fvS (gb gl gy gs : Nat) : Value := .func (.func 19) #[] #[.pointer (some ⟨gb, 0, none⟩), .pointer (some ⟨gl, 0, none⟩), .pointer (some ⟨gy, 0, none⟩), .pointer (some ⟨gs, 0, none⟩)]
/-- What stands in memory while the search runs: its four variables, and the rows it was given. -/
structure SF (B0 gb gl gy gs : Nat) (A4 : Option Addr) (c4 : Nat) (l4 : List S48) (a b : Int) (d : Nat → Int) (best : List Int) (A1 : Option Addr) (c1 : Nat) (l1 : List Int) (A2 : Option Addr) (c2 : Nat) (l2 : List S48) (W : World) : Prop where
 bl : W.heap[gl]? = some (.cells #[.slice A4 l4.length c4] 34 (0, 0))
 by_ : W.heap[gy]? = some (.cells (csBay a b d) 32 (0, 0))
 bs : W.heap[gs]? = some (.cells #[fvS gb gl gy gs] 54 (0, 0))
 bb : ∃ vb, W.heap[gb]? = some (.cells #[vb] 29 (0, 0)) ∧ Kd.R (Kd.int .i64) 2 W B0 (fun k => k ≠ gb) vb best
 ll : ∀ W', Kept W W' (fun k => k = gb) → Kd.C k48 W' A4 l4.length l4
 lc : l4.length ≤ c4
 hg : B0 ≤ gb
 nn : Kd.R (Kd.int .i64) 2 W 0 (fun k => k ≠ gb) (.slice A1 l1.length c1) l1
 kk : Kd.R k48 48 W 0 (fun k => k ≠ gb) (.slice A2 l2.length c2) l2
section
variable {B0 gb gl gy gs : Nat} {A4 : Option Addr} {c4 : Nat} {l4 : List S48} {a b : Int} {d : Nat → Int} {best : List Int} {A1 : Option Addr} {c1 : Nat} {l1 : List Int} {A2 : Option Addr} {c2 : Nat} {l2 : List S48} {W W' : World}
theorem SF.step (h : SF B0 gb gl gy gs A4 c4 l4 a b d best A1 c1 l1 A2 c2 l2 W) (k : KB gb W W') {best' : List Int} (hb : ∃ vb, W'.heap[gb]? = some (.cells #[vb] 29 (0, 0)) ∧ Kd.R (Kd.int .i64) 2 W' B0 (fun k => k ≠ gb) vb best') : SF B0 gb gl gy gs A4 c4 l4 a b d best' A1 c1 l1 A2 c2 l2 W' := by
 obtain ⟨vb, hbx, _⟩ := h.bb
 exact ⟨blk_kept h.bl k.2.2.2 (blk_ne h.bl hbx (by decide)), blk_kept h.by_ k.2.2.2 (blk_ne h.by_ hbx (by decide)), blk_kept h.bs k.2.2.2 (blk_ne h.bs hbx (by decide)), hb, fun W'' hk => h.ll W'' (k.2.2.2.then_ hk (fun _ h2 => .inl h2)), h.lc, h.hg, Kd.R_kept h.nn k.2.2.2 (fun _ hk e => hk e), Kd.R_kept h.kk k.2.2.2 (fun _ hk e => hk e)⟩
theorem SF.below (h : SF B0 gb gl gy gs A4 c4 l4 a b d best A1 c1 l1 A2 c2 l2 W) (k : Below W.heap.size W W') : SF B0 gb gl gy gs A4 c4 l4 a b d best A1 c1 l1 A2 c2 l2 W' := by
 obtain ⟨vb, hbx, hr⟩ := h.bb
 exact h.step (KB.of_below k) ⟨vb, blk_below hbx k, Kd.R_below hr k⟩
/-- The rows of another call, made since. -/
theorem SF.args (h : SF B0 gb gl gy gs A4 c4 l4 a b d best A1 c1 l1 A2 c2 l2 W) {A1' A2' : Option Addr} {c1' c2' base base2 : Nat} {l1' : List Int} {l2' : List S48} {ok ok2 : Nat → Prop} (n : Kd.R (Kd.int .i64) 2 W base ok (.slice A1' l1'.length c1') l1') (q : Kd.R k48 48 W base2 ok2 (.slice A2' l2'.length c2') l2') : SF B0 gb gl gy gs A4 c4 l4 a b d best A1' c1' l1' A2' c2' l2' W := by
 obtain ⟨vb, hbx, _⟩ := h.bb
 exact ⟨h.bl, h.by_, h.bs, h.bb, h.ll, h.lc, h.hg, Kd.R_lower (Kd.R_mono (Kd.R_types n hbx (by intro q hq; simp [Kd.int, Kd.scalar] at hq; omega)) (fun _ hk => hk.2)) (Nat.zero_le _), Kd.R_lower (Kd.R_mono (Kd.R_types q hbx (by decide)) (fun _ hk => hk.2)) (Nat.zero_le _)⟩
theorem SF.le (h : SF B0 gb gl gy gs A4 c4 l4 a b d best A1 c1 l1 A2 c2 l2 W) : B0 ≤ W.heap.size := by
 obtain ⟨vb, hbx, _⟩ := h.bb
 exact Nat.le_trans h.hg (Nat.le_of_lt (blk_lt hbx))
/-- Seen from before the variable was made. -/
theorem KB.to_below {w : World} (h0 : Below w.heap.size w W) (h : KB gb W W') (hg : w.heap.size ≤ gb) : Below w.heap.size w W' := ⟨h.1.trans h0.os, h.2.1.trans h0.tape, h.2.2.1.trans h0.output, Nat.le_trans h0.size h.2.2.2.1, fun i hi => (h.2.2.2.2 i (Nat.lt_of_lt_of_le hi h0.size) (by omega)).trans (h0.block i hi)⟩
/-- A new best row is stored. -/
theorem SF.store (h : SF B0 gb gl gy gs A4 c4 l4 a b d best A1 c1 l1 A2 c2 l2 W) {base : Nat} {ok : Nat → Prop} {v : Value} {best' : List Int} (n : Kd.R (Kd.int .i64) 2 W base ok v best') (hbase : B0 ≤ base) : SF B0 gb gl gy gs A4 c4 l4 a b d best' A1 c1 l1 A2 c2 l2 (W.setCell ⟨gb, 0, none⟩ v) := by
 obtain ⟨vb, hbx, _⟩ := h.bb
 have k : KB gb W (W.setCell ⟨gb, 0, none⟩ v) := (KB.of_below (Below.refl _ _)).set v
 have n2 := Kd.R_lower (Kd.R_mono (Kd.R_types n hbx (by intro q hq; simp [Kd.int, Kd.scalar] at hq; omega)) (fun _ hk => hk.2)) hbase
 exact h.step k ⟨v, by simpa using blk_set hbx 0 v, Kd.R_kept n2 k.2.2.2 (fun _ hk e => hk e)⟩
end
/-- A call through a function value, in a region that draws its order. -/
theorem goesRV {P : Program} {ops : Array Oper} {Q : Exit → Act → World → Prop} {oi : Oper} {N : Option Tmp} {a : Act} {w : World} {K : Act → World → Prop} (x : Tmp) {f : FuncId} {fn : Func} {os_ : Array Operand} {ts : Array TypeId} (hf : P.funcs[f]? = some fn) (hname : (fn.name == "runtime.NumGoroutine") = false) (hb : fn.body.isSome = true) (caps args0 args : Array Value)
  (hw : Region.wanted oi (yielded ops a.tmps) = true) (hN : oi.dst = N) (hop : oi.op = .call { callee := .value (.tmp x), args := os_, argTypes := ts }) (hv : a.eval (.tmp x) = .func (.func f) #[] caps) (hargs : os_.map a.eval = args0) (hall : args0 ++ caps = args)
  (h : Calls P f args w fun e w' => ∃ v, e = .returned v ∧ K (a.put N v) w') : if Region.wanted oi (yielded ops a.tmps) = true then Oper.wp P oi a w K Q else K (a.put N undef) w := by
 refine call_ f args hw hN ?_ h
 have he := enters_ hf hname hb args w
 unfold execOp
 simp only [hop, resolve, hv]
 have h2 : Array.map a.eval os_ ++ caps = args := by rw [hargs]; exact hall
 simp [Deferred.ofValue, invoke, h2, he]
def impl_MostBoats_1.T6 : Bool × List (List Nat × List Nat) := (true, [([], []), ([], []), ([1], [1]), ([], []), ([], []), ([3, 4], [3, 4]), ([], []), ([6], [6]), ([5, 7, 5], [5, 7]), ([], []), ([], []), ([9, 10, 8], [9, 10]), ([], []), ([], []), ([12, 13], [12, 13]), ([14], [14]), ([15], [15]), ([11, 16, 11], [11, 16]), ([0, 2, 8, 17, 17], [0, 2, 8, 17])])
def impl_MostBoats_1.B6 : List Nat := [0, 0, 2, 0, 0, 24, 0, 64, 248, 0, 0, 2040, 0, 0, 12288, 28672, 61440, 131064, 262143]
theorem impl_MostBoats_1.tab6 : rtab .any (opsOf Try.f19 6) = impl_MostBoats_1.T6 := by kernel_rfl
theorem impl_MostBoats_1.bits6 : waitsOk impl_MostBoats_1.T6.2 impl_MostBoats_1.B6 = true := by kernel_rfl
/-- The cells that the region reads. -/
abbrev Hd (gb gl gy gs : Nat) (ad360 : Addr) (l4_0 : List S48) (c4_0 : Nat) (x10_2 : Int) (W : World) : Prop := W.cell? ⟨gs, 0, none⟩ = some (fvS gb gl gy gs) ∧ W.cell? ⟨gl, 0, none⟩ = some (.slice (some ad360) l4_0.length c4_0) ∧ W.cell? (ad360.add ((x10_2).toNat * 6)) = some (.int .i8 ((rd_T48 l4_0 x10_2).f0.f0)) ∧ W.cell? ⟨(ad360.add ((x10_2).toNat * 6)).block, (ad360.add ((x10_2).toNat * 6)).off + 1, none⟩ = some (.int .i8 ((rd_T48 l4_0 x10_2).f0.f1)) ∧ W.cell? ⟨(ad360.add ((x10_2).toNat * 6)).block, (ad360.add ((x10_2).toNat * 6)).off + 2, none⟩ = some (.int .i8 ((rd_T48 l4_0 x10_2).f1)) ∧ W.cell? ⟨(ad360.add ((x10_2).toNat * 6)).block, (ad360.add ((x10_2).toNat * 6)).off + 3, none⟩ = some (.int .i8 ((rd_T48 l4_0 x10_2).f2)) ∧ W.cell? ⟨(ad360.add ((x10_2).toNat * 6)).block, (ad360.add ((x10_2).toNat * 6)).off + 4, none⟩ = some (.int .i8 ((rd_T48 l4_0 x10_2).f3)) ∧ W.cell? ⟨(ad360.add ((x10_2).toNat * 6)).block, (ad360.add ((x10_2).toNat * 6)).off + 5, none⟩ = some (.int .i8 ((rd_T48 l4_0 x10_2).f4))
theorem cB {w w' : World} {p : Addr} {v : Value} (h : Aside0 (Below w.heap.size w w')) (c : w.cell? p = some v) : w'.cell? p = some v := (h.out.cell (World.block_lt_of_cell? w _ c)).trans c
theorem cA {W : World} {g : Nat} {cs : Array Value} {t : TypeId} {v : Value} (h : Aside0 (W.heap[g]? = some (.cells cs t (0, 0)))) (i : Nat) (e : cs[i]? = some v := by rfl) : W.cell? ⟨g, i, none⟩ = some v := (blk_cell h.out i).trans e
theorem nD {P : Program} {ops : Array Oper} {Q : Exit → Act → World → Prop} {md : Region.Mode} {S : World → Prop} {ds : List Nat} {fuel : Nat} {l : Array Bool} {a a' : Act} {w : World} (h : wpAnyLast P md ops Q S ds fuel l a' w) (ha : a = a' := by first | (simp only [putAll, Act.put, List.setIfInBounds_toArray, List.set_cons_zero, List.set_cons_succ]; done) | (simp only [putAll, Act.put, List.setIfInBounds_toArray, List.set_cons_zero, List.set_cons_succ]; rfl)) : wpAnyLast P md ops Q S ds fuel l a w := norm_ ha h
theorem nP {P : Program} {ops : Array Oper} {Q : Exit → Act → World → Prop} {md : Region.Mode} {S : World → Prop} {ds : List Nat} {fuel : Nat} {l : Array Bool} {a a' : Act} {w : World} (h : wpAnyLast P md ops Q S ds fuel l a' w) (ha : a = a' := by (simp only [Act.put, List.setIfInBounds_toArray, List.set_cons_zero, List.set_cons_succ, i64_w, i32_w]; rfl)) : wpAnyLast P md ops Q S ds fuel l a w := norm_ ha h
theorem nQ {P : Program} {ops : Array Oper} {Q : Exit → Act → World → Prop} {md : Region.Mode} {S : World → Prop} {ds : List Nat} {fuel : Nat} {l : Array Bool} {a a' : Act} {w : World} (h : wpAnyLast P md ops Q S ds fuel l a' w) (ha : a = a' := by (simp only [putAll, Act.put, List.setIfInBounds_toArray, List.set_cons_zero, List.set_cons_succ]; rfl)) : wpAnyLast P md ops Q S ds fuel l a w := norm_ ha h
set_option maxHeartbeats 8000000 in
set_option maxRecDepth 100000 in
theorem impl_MostBoats_1.calls (B0 gb gl gy gs : Nat) (A4_0 : Option Addr) (c4_0 : Nat) (l4_0 : List (S48)) (a5_0 : Int) (a5_1 : Int) (a5_2 : (Nat → Int)) (k : Nat) : ∀ (a0 : Int) (A1 : Option Addr) (c1 : Nat) (l1 : List Int) (A2 : Option Addr) (c2 : Nat) (l2 : List (S48)) (l3 : List Int) (r : List Int) (w : World), SF B0 gb gl gy gs A4_0 c4_0 l4_0 a5_0 a5_1 a5_2 l3 A1 c1 l1 A2 c2 l2 w → impl_MostBoats_1.f k a0 l1 l2 l3 l4_0 a5_0 a5_1 a5_2 = some r →
  Calls Try.prog 19 #[.int .i64 a0, .slice A1 l1.length c1, .slice A2 l2.length c2, .pointer (some ⟨gb, 0, none⟩), .pointer (some ⟨gl, 0, none⟩), .pointer (some ⟨gy, 0, none⟩), .pointer (some ⟨gs, 0, none⟩)] w fun e w' => e = .returned (.tuple #[]) ∧ KB gb w w' ∧ ∃ vb, w'.heap[gb]? = some (.cells #[vb] 29 (0, 0)) ∧ Kd.R (Kd.int .i64) 2 w' B0 (fun k => k ≠ gb) vb r := by
 induction k using Nat.strongRecOn with
 | ind k ih =>
 intro a0 A1 c1 l1 A2 c2 l2 l3 r w hs h
 have hu32 := Try.underlying32
 have hu48 := Try.underlying48
 have IH := am ih
 have HS := am hs
 clear ih hs
 have HC7 := am (show (if (l1.length : Int) > (l3.length : Int) then (if (([] : List Int)).length + l1.length < 17592186044416 then (impl_MostBoats_1.j0 k a0 l1 l2 (([] : List Int) ++ l1) l4_0 a5_0 a5_1 a5_2) else (none)) else (impl_MostBoats_1.j0 k a0 l1 l2 l3 l4_0 a5_0 a5_1 a5_2)) = some r from h)
 clear h
 have HR1 := am (show Kd.C (Kd.int .i64) w A1 l1.length l1 from (Kd.R_reads' HS.out.nn).2.2)
 have HC1 := am (Kd.R_reads' HS.out.nn).2.1
 have HR2 := am (show Kd.C k48 w A2 l2.length l2 from (Kd.R_reads' HS.out.kk).2.2)
 have HC2 := am (Kd.R_reads' HS.out.kk).2.1
 have HR4_0 := am (show Kd.C k48 w A4_0 l4_0.length l4_0 from HS.out.ll _ (Kept.refl _ _))
 have HC4_0 := am HS.out.lc
 have BK351 := am HS.out.bl
 have BK352 := am HS.out.by_
 have BK353 := am HS.out.bs
 have NB351_352 := am (blk_ne HS.out.bl HS.out.by_ (by decide))
 have NB351_353 := am (blk_ne HS.out.bl HS.out.bs (by decide))
 have NB352_351 := am (blk_ne HS.out.by_ HS.out.bl (by decide))
 have NB352_353 := am (blk_ne HS.out.by_ HS.out.bs (by decide))
 have NB353_351 := am (blk_ne HS.out.bs HS.out.bl (by decide))
 have NB353_352 := am (blk_ne HS.out.bs HS.out.by_ (by decide))
 have HB := am (Below.refl w.heap.size w)
 obtain ⟨vb, hbx, hrb⟩ := HS.out.bb
 obtain ⟨Ab, cb, eb⟩ := Kd.R_slice hrb
 subst eb
 have hcb : w.cell? ⟨gb, 0, none⟩ = some (.slice Ab l3.length cb) := (blk_cell hbx 0).trans rfl
 have hfb := blk_frozen hbx 0
 clear hbx hrb
 go_enter Try.func19, Try.ntmps19
 go_upto_if 15 with fail
 (try simp only [Act.put, List.setIfInBounds_toArray, List.set_cons_zero, List.set_cons_succ])
 clear hcb hfb
 go_cut [] (fun wc => ∃ (kq : Nat) (bq : List Int), Aside0 (impl_MostBoats_1.j0 kq a0 l1 l2 bq l4_0 a5_0 a5_1 a5_2 = some r) ∧ Aside0 (kq ≤ k) ∧ Aside0 (SF B0 gb gl gy gs A4_0 c4_0 l4_0 a5_0 a5_1 a5_2 bq A1 c1 l1 A2 c2 l2 wc) ∧ Aside0 (KB gb w wc))
 case first =>
  have H := HC7.out
  clear HC7
  by_cases c10 : (l1.length : Int) > (l3.length : Int)
  ·rw [if_pos c10] at H
   have c10b0 : decide ((l3.length : Int) < (l1.length : Int)) = true := decide_eq_true c10
   have c10b1 : decide (l3.length < l1.length) = true := decide_eq_true (Int.ofNat_lt.mp c10)
   clear c10
   (first | rw [c10b1] | rw [c10b0] | (simp only [i64_w, i32_w]; first | rw [c10b1] | rw [c10b0]) | skip)
   obtain ⟨y354, hy354⟩ : ∃ y_ : List Int, y_ = (([] : List Int)) := ⟨_, rfl⟩
   replace H : (if y354.length + l1.length < 17592186044416 then (impl_MostBoats_1.j0 k a0 l1 l2 (y354 ++ l1) l4_0 a5_0 a5_1 a5_2) else (none)) = some r := by rw [hy354]; exact H
   have Ny354 := am hy354
   clear hy354
   by_cases c13 : y354.length + l1.length < 17592186044416
   ·rw [if_pos c13] at H
    have LMc13 := am c13
    clear c13
    obtain ⟨y357, hy357⟩ : ∃ y_ : List Int, y_ = (y354 ++ l1) := ⟨_, rfl⟩
    replace H : (impl_MostBoats_1.j0 k a0 l1 l2 y357 l4_0 a5_0 a5_1 a5_2) = some r := by rw [hy357]; exact H
    have Ny357 := am hy357
    clear hy357
    have H' := am H
    clear H
    go_wp2_with (first | ((with_reducible refine gate_dst (N := 16) rfl ?_); refine Kd.R_lit (Kd.int .i64) _ 2 ?hg (N := 16) ?hd (xs := ([] : List Int)) (inner := []) (ok := fun _ => True) (okp := fun _ => True) ?hr ?hp (fun _ hk => hk) trivial (Below.refl _ _) (Nat.le_refl _) (by simp) ?_; (case hd => rfl); (case hg => rfl); (case hr => first | (go_simp; done) | (go_simp; rfl)); (case hp => exact (Reps.none _ _)); intro v355 w14 ho15 hb hg_ hnew_; clear hg_ hnew_; (first | rw [← Ny354.out] at ho15 | (simp only [Int.reduceToNat] at ho15; rw [← Ny354.out] at ho15)); have HO356 := am (Kd.R_lower ho15 (below_size (be HB))); replace BK351 := bB BK351 hb; replace BK352 := bB BK352 hb; replace BK353 := bB BK353 hb; replace HB := am (below_step (be HB) hb); clear hb ho15) | ((with_reducible refine gate_builtin (b := .append) (xs := #[.tmp 16, .tmp 17]) rfl ?_); at_builtin; refine Kd.R_append_rows (Kd.int .i64) (w0 := w) w.heap.size rfl (.tmp 16) (.tmp 17) 29 2 (.int .i64 0) 8 rfl Try.underlying29 info2 rfl (by decide) (by omega) v355 y354 l1 _ _ _ (fun _ => True) (fun _ => False) rfl rfl ?aO ?aR (fun _ _ h => h) (fun _ h => h.elim) ?aF ?aB ?aS ?aL ?_; (case aR => repeat (first | exact (Kd.C_below HR1.out HB.out) | (with_reducible refine Kd.C_alloc ?_ _) | (with_reducible refine Kd.C_drewN ?_ _) | (with_reducible refine Kd.C_drew ?_))); (case aB => exact (be HB)); (case aF => exact (fun _ _ => trivial)); (case aO => exact (kr HO356)); (case aS => exact (below_size (be HB))); (case aL => have := LMc13.out; omega); intro v358 w16 ho hb hg hat; rw [← Ny357.out] at ho; have HO359 := am (ho); replace BK351 := am (blk_grown (g := gl) (o := .cells #[.slice A4_0 l4_0.length c4_0] 34 (0, 0)) (kb BK351) hg (Kd.R_ne HO356.out BK351.out (by decide))); replace BK352 := am (blk_grown (g := gy) (o := .cells (csBay a5_0 a5_1 a5_2) 32 (0, 0)) (kb BK352) hg (Kd.R_ne HO356.out BK352.out (by decide))); replace BK353 := am (blk_grown (g := gs) (o := .cells #[fvS gb gl gy gs] 54 (0, 0)) (kb BK353) hg (Kd.R_ne HO356.out BK353.out (by decide))); replace HB := am (hb); clear HO356; clear ho hb hg hat; obtain ⟨Ao9, co9, eo9⟩ := Kd.R_slice HO359.out; subst eo9; obtain ⟨vb9, hb9, _⟩ := (SF.below HS.out HB.out).bb; have hcb9 : _ = some vb9 := (blk_cell hb9 0).trans rfl; have hfb9 := blk_frozen hb9 0; clear hb9))
    go_meet
    case rel => exact ⟨_, y357, H', ⟨by first | omega | exact Nat.le_refl _⟩, ⟨SF.store (SF.below HS.out HB.out) HO359.out (SF.le HS.out)⟩, ⟨(KB.of_below HB.out).set _⟩⟩
   rw [if_neg c13] at H
   exact absurd H (by simp)
  rw [if_neg c10] at H
  have c10b0 : decide ((l3.length : Int) < (l1.length : Int)) = false := decide_eq_false c10
  have c10b1 : decide (l3.length < l1.length) = false := decide_eq_false (fun h => c10 (Int.ofNat_lt.mpr h))
  clear c10
  (first | rw [c10b1] | rw [c10b0] | (simp only [i64_w, i32_w]; first | rw [c10b1] | rw [c10b0]) | skip)
  have H' := am H
  clear H
  go_wp2
  go_meet
  case rel => exact ⟨_, l3, H', ⟨by first | omega | exact Nat.le_refl _⟩, ⟨HS.out⟩, ⟨KB.of_below (Below.refl _ _)⟩⟩
 case rest =>
  clear HC7
  clear HS HR1 HC1 HR2 HC2 HR4_0 HC4_0 BK351 BK352 BK353 HB
  obtain ⟨kq, bq, HA, HJ7, HS, HKB⟩ := hcut
  cases kq with
  | zero => exact absurd HA.out (by simp [impl_MostBoats_1.j0])
  | succ kj6 =>
   have H := HA.out
   clear HA
   simp only [impl_MostBoats_1.j0] at H
   have H' := am H
   clear H
   go_wp2
   go_loopg [10] kj6 (fun kq v10 w' => ∃ (x10_2 : Int) (bq2 : List Int), v10 = .int .i64 x10_2 ∧ Aside0 (impl_MostBoats_1.l0 kq l1 l2 x10_2 bq2 l4_0 a5_0 a5_1 a5_2 = some r) ∧ Aside0 (kq ≤ kj6) ∧ Aside0 (SF B0 gb gl gy gs A4_0 c4_0 l4_0 a5_0 a5_1 a5_2 bq2 A1 c1 l1 A2 c2 l2 w') ∧ Aside0 (KB gb w w'))
   case atStart => exact ⟨(a0), bq, vv, H', ⟨Nat.le_refl _⟩, ⟨HS.out⟩, ⟨HKB.out⟩⟩
   case round =>
    clear H' HS HKB
    obtain ⟨x10_2, bq2, rfl, HA, HK2, HS, HKB⟩ := hrel
    cases gk with
    | zero => exact absurd HA.out (by simp [impl_MostBoats_1.l0])
    | succ k2 =>
     have H := HA.out
     clear HA
     simp only [impl_MostBoats_1.l0] at H
     obtain ⟨w, hw_⟩ : ∃ w_ : World, w_ = wr := ⟨_, rfl⟩
     have HR1 := am (show Kd.C (Kd.int .i64) w A1 l1.length l1 by rw [hw_]; exact (Kd.R_reads' HS.out.nn).2.2)
     have HC1 := am (Kd.R_reads' HS.out.nn).2.1
     have HR2 := am (show Kd.C k48 w A2 l2.length l2 by rw [hw_]; exact (Kd.R_reads' HS.out.kk).2.2)
     have HC2 := am (Kd.R_reads' HS.out.kk).2.1
     have HR4_0 := am (show Kd.C k48 w A4_0 l4_0.length l4_0 by rw [hw_]; exact HS.out.ll _ (Kept.refl _ _))
     have HC4_0 := am HS.out.lc
     have BK351 := am HS.out.bl
     have BK352 := am HS.out.by_
     have BK353 := am HS.out.bs
     have NB351_352 := am (blk_ne HS.out.bl HS.out.by_ (by decide))
     have NB351_353 := am (blk_ne HS.out.bl HS.out.bs (by decide))
     have NB352_351 := am (blk_ne HS.out.by_ HS.out.bl (by decide))
     have NB352_353 := am (blk_ne HS.out.by_ HS.out.bs (by decide))
     have NB353_351 := am (blk_ne HS.out.bs HS.out.bl (by decide))
     have NB353_352 := am (blk_ne HS.out.bs HS.out.by_ (by decide))
     have HB := am (show Below w.heap.size w wr by rw [hw_]; exact Below.refl _ _)
     have HW := am hw_
     clear hw_
     by_cases c17 : x10_2 < (l4_0.length : Int)
     ·rw [if_pos c17] at H
      have c17b0 : decide (x10_2 < (l4_0.length : Int)) = true := decide_eq_true c17
      clear c17
      by_cases c18 : 0 ≤ x10_2
      ·rw [if_pos c18] at H
       have c18b0 : decide (0 ≤ x10_2) = true := decide_eq_true c18
       have c18b1 : 0 ≤ x10_2 := c18
       clear c18
       replace H := Option.bind_eq_some_iff.mp H
       obtain ⟨t361, A190, H⟩ := H
       try dsimp only at H
       have A19 := am A190
       clear A190
       by_cases c20 : t361 = true
       ·subst c20
        rw [if_pos rfl] at H
        obtain ⟨y362, hy362⟩ : ∃ y_ : List Int, y_ = (([] : List Int)) := ⟨_, rfl⟩
        replace H : (if y362.length + l1.length < 17592186044416 then ((some (y362 ++ l1 : List Int)).bind fun y365 => ((some (([x10_2] : List Int) : List Int)).bind fun y368 => (if y365.length + y368.length < 17592186044416 then ((some (([] : List (S48)) : List (S48))).bind fun y374 => (if y374.length + l2.length < 23456248059221 then ((some (y374 ++ l2 : List (S48))).bind fun y377 => ((some (([(⟨(⟨(rd_T48 l4_0 x10_2).f0.f0, (rd_T48 l4_0 x10_2).f0.f1⟩ : S46), (rd_T48 l4_0 x10_2).f1, (rd_T48 l4_0 x10_2).f2, (rd_T48 l4_0 x10_2).f3, (rd_T48 l4_0 x10_2).f4⟩ : S48)] : List (S48)) : List (S48))).bind fun y381 => (if y377.length + y381.length < 23456248059221 then ((impl_MostBoats_1.f k2 (wrap64 (x10_2 + 1)) (y365 ++ y368) (y377 ++ y381) bq2 l4_0 a5_0 a5_1 a5_2).bind fun b_ => (impl_MostBoats_1.l0 k2 l1 l2 (wrap64 (x10_2 + 1)) b_ l4_0 a5_0 a5_1 a5_2)) else (none)))) else (none))) else (none)))) else (none)) = some r := by first | (rw [hy362]; with_reducible exact H) | (have H2_ := (Option.bind_some _ _).symm.trans H; rw [hy362]; with_reducible exact H2_) | (have H2_ := (Option.bind_some _ _).symm.trans H; with_reducible exact H2_) | with_reducible exact H | (rw [hy362]; exact H) | exact H
        have Ny362 := am hy362
        clear hy362
        by_cases c21 : y362.length + l1.length < 17592186044416
        ·rw [if_pos c21] at H
         have LMc21 := am c21
         clear c21
         obtain ⟨y365, hy365⟩ : ∃ y_ : List Int, y_ = (y362 ++ l1) := ⟨_, rfl⟩
         replace H : ((some (([x10_2] : List Int) : List Int)).bind fun y368 => (if y365.length + y368.length < 17592186044416 then ((some (([] : List (S48)) : List (S48))).bind fun y374 => (if y374.length + l2.length < 23456248059221 then ((some (y374 ++ l2 : List (S48))).bind fun y377 => ((some (([(⟨(⟨(rd_T48 l4_0 x10_2).f0.f0, (rd_T48 l4_0 x10_2).f0.f1⟩ : S46), (rd_T48 l4_0 x10_2).f1, (rd_T48 l4_0 x10_2).f2, (rd_T48 l4_0 x10_2).f3, (rd_T48 l4_0 x10_2).f4⟩ : S48)] : List (S48)) : List (S48))).bind fun y381 => (if y377.length + y381.length < 23456248059221 then ((impl_MostBoats_1.f k2 (wrap64 (x10_2 + 1)) (y365 ++ y368) (y377 ++ y381) bq2 l4_0 a5_0 a5_1 a5_2).bind fun b_ => (impl_MostBoats_1.l0 k2 l1 l2 (wrap64 (x10_2 + 1)) b_ l4_0 a5_0 a5_1 a5_2)) else (none)))) else (none))) else (none))) = some r := by first | (rw [hy365]; with_reducible exact H) | (have H2_ := (Option.bind_some _ _).symm.trans H; rw [hy365]; with_reducible exact H2_) | (have H2_ := (Option.bind_some _ _).symm.trans H; with_reducible exact H2_) | with_reducible exact H | (rw [hy365]; exact H) | exact H
         have Ny365 := am hy365
         clear hy365
         obtain ⟨y368, hy368⟩ : ∃ y_ : List Int, y_ = (([x10_2] : List Int)) := ⟨_, rfl⟩
         replace H : (if y365.length + y368.length < 17592186044416 then ((some (([] : List (S48)) : List (S48))).bind fun y374 => (if y374.length + l2.length < 23456248059221 then ((some (y374 ++ l2 : List (S48))).bind fun y377 => ((some (([(⟨(⟨(rd_T48 l4_0 x10_2).f0.f0, (rd_T48 l4_0 x10_2).f0.f1⟩ : S46), (rd_T48 l4_0 x10_2).f1, (rd_T48 l4_0 x10_2).f2, (rd_T48 l4_0 x10_2).f3, (rd_T48 l4_0 x10_2).f4⟩ : S48)] : List (S48)) : List (S48))).bind fun y381 => (if y377.length + y381.length < 23456248059221 then ((impl_MostBoats_1.f k2 (wrap64 (x10_2 + 1)) (y365 ++ y368) (y377 ++ y381) bq2 l4_0 a5_0 a5_1 a5_2).bind fun b_ => (impl_MostBoats_1.l0 k2 l1 l2 (wrap64 (x10_2 + 1)) b_ l4_0 a5_0 a5_1 a5_2)) else (none)))) else (none))) else (none)) = some r := by first | (rw [hy368]; with_reducible exact H) | (have H2_ := (Option.bind_some _ _).symm.trans H; rw [hy368]; with_reducible exact H2_) | (have H2_ := (Option.bind_some _ _).symm.trans H; with_reducible exact H2_) | with_reducible exact H | (rw [hy368]; exact H) | exact H
         have Ny368 := am hy368
         clear hy368
         by_cases c22 : y365.length + y368.length < 17592186044416
         ·rw [if_pos c22] at H
          have LMc22 := am c22
          clear c22
          obtain ⟨y371, hy371⟩ : ∃ y_ : List Int, y_ = (y365 ++ y368) := ⟨_, rfl⟩
          replace H : ((some (([] : List (S48)) : List (S48))).bind fun y374 => (if y374.length + l2.length < 23456248059221 then ((some (y374 ++ l2 : List (S48))).bind fun y377 => ((some (([(⟨(⟨(rd_T48 l4_0 x10_2).f0.f0, (rd_T48 l4_0 x10_2).f0.f1⟩ : S46), (rd_T48 l4_0 x10_2).f1, (rd_T48 l4_0 x10_2).f2, (rd_T48 l4_0 x10_2).f3, (rd_T48 l4_0 x10_2).f4⟩ : S48)] : List (S48)) : List (S48))).bind fun y381 => (if y377.length + y381.length < 23456248059221 then ((impl_MostBoats_1.f k2 (wrap64 (x10_2 + 1)) y371 (y377 ++ y381) bq2 l4_0 a5_0 a5_1 a5_2).bind fun b_ => (impl_MostBoats_1.l0 k2 l1 l2 (wrap64 (x10_2 + 1)) b_ l4_0 a5_0 a5_1 a5_2)) else (none)))) else (none))) = some r := by first | (rw [hy371]; with_reducible exact H) | (have H2_ := (Option.bind_some _ _).symm.trans H; rw [hy371]; with_reducible exact H2_) | (have H2_ := (Option.bind_some _ _).symm.trans H; with_reducible exact H2_) | with_reducible exact H | (rw [hy371]; exact H) | exact H
          have Ny371 := am hy371
          clear hy371
          obtain ⟨y374, hy374⟩ : ∃ y_ : List (S48), y_ = (([] : List (S48))) := ⟨_, rfl⟩
          replace H : (if y374.length + l2.length < 23456248059221 then ((some (y374 ++ l2 : List (S48))).bind fun y377 => ((some (([(⟨(⟨(rd_T48 l4_0 x10_2).f0.f0, (rd_T48 l4_0 x10_2).f0.f1⟩ : S46), (rd_T48 l4_0 x10_2).f1, (rd_T48 l4_0 x10_2).f2, (rd_T48 l4_0 x10_2).f3, (rd_T48 l4_0 x10_2).f4⟩ : S48)] : List (S48)) : List (S48))).bind fun y381 => (if y377.length + y381.length < 23456248059221 then ((impl_MostBoats_1.f k2 (wrap64 (x10_2 + 1)) y371 (y377 ++ y381) bq2 l4_0 a5_0 a5_1 a5_2).bind fun b_ => (impl_MostBoats_1.l0 k2 l1 l2 (wrap64 (x10_2 + 1)) b_ l4_0 a5_0 a5_1 a5_2)) else (none)))) else (none)) = some r := by first | (rw [hy374]; with_reducible exact H) | (have H2_ := (Option.bind_some _ _).symm.trans H; rw [hy374]; with_reducible exact H2_) | (have H2_ := (Option.bind_some _ _).symm.trans H; with_reducible exact H2_) | with_reducible exact H | (rw [hy374]; exact H) | exact H
          have Ny374 := am hy374
          clear hy374
          by_cases c23 : y374.length + l2.length < 23456248059221
          ·rw [if_pos c23] at H
           have LMc23 := am c23
           clear c23
           obtain ⟨y377, hy377⟩ : ∃ y_ : List (S48), y_ = (y374 ++ l2) := ⟨_, rfl⟩
           replace H : ((some (([(⟨(⟨(rd_T48 l4_0 x10_2).f0.f0, (rd_T48 l4_0 x10_2).f0.f1⟩ : S46), (rd_T48 l4_0 x10_2).f1, (rd_T48 l4_0 x10_2).f2, (rd_T48 l4_0 x10_2).f3, (rd_T48 l4_0 x10_2).f4⟩ : S48)] : List (S48)) : List (S48))).bind fun y381 => (if y377.length + y381.length < 23456248059221 then ((impl_MostBoats_1.f k2 (wrap64 (x10_2 + 1)) y371 (y377 ++ y381) bq2 l4_0 a5_0 a5_1 a5_2).bind fun b_ => (impl_MostBoats_1.l0 k2 l1 l2 (wrap64 (x10_2 + 1)) b_ l4_0 a5_0 a5_1 a5_2)) else (none))) = some r := by first | (rw [hy377]; with_reducible exact H) | (have H2_ := (Option.bind_some _ _).symm.trans H; rw [hy377]; with_reducible exact H2_) | (have H2_ := (Option.bind_some _ _).symm.trans H; with_reducible exact H2_) | with_reducible exact H | (rw [hy377]; exact H) | exact H
           have Ny377 := am hy377
           clear hy377
           obtain ⟨y381, hy381⟩ : ∃ y_ : List (S48), y_ = (([(⟨(⟨(rd_T48 l4_0 x10_2).f0.f0, (rd_T48 l4_0 x10_2).f0.f1⟩ : S46), (rd_T48 l4_0 x10_2).f1, (rd_T48 l4_0 x10_2).f2, (rd_T48 l4_0 x10_2).f3, (rd_T48 l4_0 x10_2).f4⟩ : S48)] : List (S48))) := ⟨_, rfl⟩
           replace H : (if y377.length + y381.length < 23456248059221 then ((impl_MostBoats_1.f k2 (wrap64 (x10_2 + 1)) y371 (y377 ++ y381) bq2 l4_0 a5_0 a5_1 a5_2).bind fun b_ => (impl_MostBoats_1.l0 k2 l1 l2 (wrap64 (x10_2 + 1)) b_ l4_0 a5_0 a5_1 a5_2)) else (none)) = some r := by first | (rw [hy381]; with_reducible exact H) | (have H2_ := (Option.bind_some _ _).symm.trans H; rw [hy381]; with_reducible exact H2_) | (have H2_ := (Option.bind_some _ _).symm.trans H; with_reducible exact H2_) | with_reducible exact H | (rw [hy381]; exact H) | exact H
           have Ny381 := am hy381
           clear hy381
           by_cases c24 : y377.length + y381.length < 23456248059221
           ·rw [if_pos c24] at H
            have LMc24 := am c24
            clear c24
            obtain ⟨y384, hy384⟩ : ∃ y_ : List (S48), y_ = (y377 ++ y381) := ⟨_, rfl⟩
            replace H : ((impl_MostBoats_1.f k2 (wrap64 (x10_2 + 1)) y371 y384 bq2 l4_0 a5_0 a5_1 a5_2).bind fun b_ => (impl_MostBoats_1.l0 k2 l1 l2 (wrap64 (x10_2 + 1)) b_ l4_0 a5_0 a5_1 a5_2)) = some r := by first | (rw [hy384]; with_reducible exact H) | (have H2_ := (Option.bind_some _ _).symm.trans H; rw [hy384]; with_reducible exact H2_) | (have H2_ := (Option.bind_some _ _).symm.trans H; with_reducible exact H2_) | with_reducible exact H | (rw [hy384]; exact H) | exact H
            have Ny384 := am hy384
            clear hy384
            replace H := Option.bind_eq_some_iff.mp H
            obtain ⟨b_, A250, H⟩ := H
            try dsimp only at H
            have A25 := am A250
            clear A250
            have H' := am H
            clear H
            have hnb26 := NB351_352.out
            have hnc26 := NB352_351.out
            have hnb27 := NB351_353.out
            have hnc27 := NB353_351.out
            obtain ⟨hcz28_0, hfz28_0⟩ := bx1 BK351
            try go_wp2
            replace BK351 := am (blk_drew BK351.out)
            replace BK352 := am (blk_drew BK352.out)
            replace BK353 := am (blk_drew BK353.out)
            replace HB := am (below_drew1 HB.out)
            have p360 : 0 ≤ (x10_2 : Int) := of_decide_eq_true (by first | (with_reducible assumption) | assumption)
            have q360 : x10_2 < (l4_0.length : Int) := of_decide_eq_true (by first | (with_reducible assumption) | assumption)
            obtain ⟨ad360, e360, hx360_0, hx360_1, hx360_2, hx360_3, hx360_4, hx360_5⟩ := at_T48 HR4_0.out x10_2 p360 q360
            have hw360_5 := hx360_5
            have hw360_4 := hx360_4
            have hw360_3 := hx360_3
            have hw360_2 := hx360_2
            have hw360_1 := hx360_1
            have hw360_0 := hx360_0
            cases e360
            replace hx360_0 := (HB.out.cell (World.block_lt_of_cell? w _ hx360_0)).trans hx360_0
            replace hx360_1 := (HB.out.cell (World.block_lt_of_cell? w _ hx360_1)).trans hx360_1
            replace hx360_2 := (HB.out.cell (World.block_lt_of_cell? w _ hx360_2)).trans hx360_2
            replace hx360_3 := (HB.out.cell (World.block_lt_of_cell? w _ hx360_3)).trans hx360_3
            replace hx360_4 := (HB.out.cell (World.block_lt_of_cell? w _ hx360_4)).trans hx360_4
            replace hx360_5 := (HB.out.cell (World.block_lt_of_cell? w _ hx360_5)).trans hx360_5
            replace p360 := eq_true p360
            replace q360 := eq_true q360
            refine start_ (n := 7) (S := fun w' => w'.cell? ⟨gy, 0, none⟩ = some (.int .i8 a5_0) ∧ w'.cell? ⟨gy, 1, none⟩ = some (.int .i8 a5_1) ∧ atCells w' gy a5_2 ∧ BayAt32 w' gy ∧ lvv w' gy = .agg (csBay a5_0 a5_1 a5_2) ∧ w'.cell? ⟨gl, 0, none⟩ = some (.slice (some ad360) l4_0.length c4_0) ∧ w'.cell? (ad360.add ((x10_2).toNat * 6)) = some (.int .i8 ((rd_T48 l4_0 x10_2).f0.f0)) ∧ w'.cell? ⟨(ad360.add ((x10_2).toNat * 6)).block, (ad360.add ((x10_2).toNat * 6)).off + 1, none⟩ = some (.int .i8 ((rd_T48 l4_0 x10_2).f0.f1)) ∧ w'.cell? ⟨(ad360.add ((x10_2).toNat * 6)).block, (ad360.add ((x10_2).toNat * 6)).off + 2, none⟩ = some (.int .i8 ((rd_T48 l4_0 x10_2).f1)) ∧ w'.cell? ⟨(ad360.add ((x10_2).toNat * 6)).block, (ad360.add ((x10_2).toNat * 6)).off + 3, none⟩ = some (.int .i8 ((rd_T48 l4_0 x10_2).f2)) ∧ w'.cell? ⟨(ad360.add ((x10_2).toNat * 6)).block, (ad360.add ((x10_2).toNat * 6)).off + 4, none⟩ = some (.int .i8 ((rd_T48 l4_0 x10_2).f3)) ∧ w'.cell? ⟨(ad360.add ((x10_2).toNat * 6)).block, (ad360.add ((x10_2).toNat * 6)).off + 5, none⟩ = some (.int .i8 ((rd_T48 l4_0 x10_2).f4))) (ds := []) #[false, false, false, false, false, false, false] (by kernel_rfl) rfl rfl ⟨cA BK352 0, cA BK352 1, at_cells BK352.out, BayAt32_of BK352.out, lvv_of BK352.out, cA BK351 0, cB HB hw360_0, cB HB hw360_1, cB HB hw360_2, cB HB hw360_3, cB HB hw360_4, cB HB hw360_5⟩ (fun hHeld => ?_)
            generalize wr.drew = w29 at BK351 BK352 BK353 HB hx360_0 hx360_1 hx360_2 hx360_3 hx360_4 hx360_5 hHeld ⊢
            refine pure_ (i := 1) (N := some 27) (v := ?_) (a' := ?_) #[false, true, false, false, false, false, false] rfl rfl (by kernel_rfl) (fun _ _ _ h => h) (Or.inl ⟨by rfl, ?_⟩) ?_ ?_
            rotate_left
            ·intro w'
             go_simp
             with_reducible rfl
            rotate_left
            ·simp only [Act.put, List.setIfInBounds_toArray, List.set_cons_zero, List.set_cons_succ, i64_w, i32_w]
             rfl
            refine pure_ (i := 3) (N := some 29) (v := ?_) (a' := ?_) #[false, true, false, true, false, false, false] rfl rfl (by kernel_rfl) (fun _ _ _ h => h) (Or.inl ⟨by rfl, ?_⟩) ?_ ?_
            rotate_left
            ·intro w'
             go_simp
             with_reducible rfl
            rotate_left
            ·simp only [Act.put, List.setIfInBounds_toArray, List.set_cons_zero, List.set_cons_succ, i64_w, i32_w]
             rfl
            refine take_ (i := 0) (N := some 26) (v := ?_) (a' := ?_) #[true, true, false, true, false, false, false] rfl rfl (by kernel_rfl) (fun _ _ _ h => h) (Or.inl ⟨by rfl, ?_⟩) hHeld ?_ ?_
            rotate_left
            ·rintro w' ⟨s0, s1, s2, s3, s4, s5, s6, s7, s8, s9, s10, s11⟩
             go_simp
             with_reducible rfl
            rotate_left
            ·simp only [Act.put, List.setIfInBounds_toArray, List.set_cons_zero, List.set_cons_succ, i64_w, i32_w]
             rfl
            refine take_ (i := 2) (N := some 28) (v := ?_) (a' := ?_) #[true, true, true, true, false, false, false] rfl rfl (by kernel_rfl) (fun _ _ _ h => h) (Or.inl ⟨by rfl, ?_⟩) hHeld ?_ ?_
            rotate_left
            ·rintro w' ⟨s0, s1, s2, s3, s4, s5, s6, s7, s8, s9, s10, s11⟩
             go_simp
             with_reducible rfl
            rotate_left
            ·simp only [Act.put, List.setIfInBounds_toArray, List.set_cons_zero, List.set_cons_succ, i64_w, i32_w]
             rfl
            refine pure_ (i := 4) (N := some 30) (v := ?_) (a' := ?_) #[true, true, true, true, true, false, false] rfl rfl (by kernel_rfl) (fun _ _ _ h => h) (Or.inl ⟨by rfl, ?_⟩) ?_ ?_
            rotate_left
            ·intro w'
             go_simp
             with_reducible rfl
            rotate_left
            ·simp only [Act.put, List.setIfInBounds_toArray, List.set_cons_zero, List.set_cons_succ, i64_w, i32_w]
             rfl
            refine take_ (i := 5) (N := some 31) (v := ?_) (a' := ?_) #[true, true, true, true, true, true, false] rfl rfl (by kernel_rfl) (fun _ _ _ h => h) (Or.inl ⟨by rfl, ?_⟩) hHeld ?_ ?_
            rotate_left
            ·rintro w' ⟨s0, s1, s2, s3, s4, s5, s6, s7, s8, s9, s10, s11⟩
             go_simp
             with_reducible rfl
            rotate_left
            ·simp only [Act.put, List.setIfInBounds_toArray, List.set_cons_zero, List.set_cons_succ, i64_w, i32_w]
             rfl
            refine one_ (i := 6) (N := some 32) #[true, true, true, true, true, true, true] rfl rfl (by kernel_rfl) (by decide) (fun K hK => ?_)
            refine goes_ Try.func20 (by kernel_rfl) rfl #[.agg (csBay a5_0 a5_1 a5_2), .slice A2 l2.length c2, .agg #[.int .i8 ((rd_T48 l4_0 x10_2).f0.f0), .int .i8 ((rd_T48 l4_0 x10_2).f0.f1), .int .i8 ((rd_T48 l4_0 x10_2).f1), .int .i8 ((rd_T48 l4_0 x10_2).f2), .int .i8 ((rd_T48 l4_0 x10_2).f3), .int .i8 ((rd_T48 l4_0 x10_2).f4)]] (by rfl) rfl rfl (by (try simp only [List.map_toArray, List.map_cons, List.map_nil]); first | done | rfl | (simp only [List.length_drop, List.length_take]; rfl)) ?_
            with_reducible refine (impl_comes.calls k2 a5_0 a5_1 a5_2 _ _ l2 ((rd_T48 l4_0 x10_2).f0.f0) ((rd_T48 l4_0 x10_2).f0.f1) ((rd_T48 l4_0 x10_2).f1) ((rd_T48 l4_0 x10_2).f2) ((rd_T48 l4_0 x10_2).f3) ((rd_T48 l4_0 x10_2).f4) true _ ?side1 ?side2 A19.out).mono ?_
            (case side1 => repeat (first | exact (Kd.C_below HR2.out HB.out) | (with_reducible refine Kd.C_alloc ?_ _) | (with_reducible refine Kd.C_drewN ?_ _) | (with_reducible refine Kd.C_drew ?_)))
            (case side2 => exact HC2.out)
            rintro e w30 ⟨rfl, hb⟩
            refine ⟨_, rfl, ?_⟩
            replace BK351 := bB BK351 hb
            replace BK352 := bB BK352 hb
            replace BK353 := bB BK353 hb
            replace HB := am (below_step (be HB) hb)
            (try clear hb)
            (try clear hb2)
            (try clear hk)
            (try clear hi)
            refine hK.out _ _ ⟨cA BK352 0, cA BK352 1, at_cells BK352.out, BayAt32_of BK352.out, lvv_of BK352.out, cA BK351 0, cB HB hw360_0, cB HB hw360_1, cB HB hw360_2, cB HB hw360_3, cB HB hw360_4, cB HB hw360_5⟩ (fun hHeld => ?_)
            clear hK K
            refine nP ?_
            refine done_ (by kernel_rfl) ?_
            try go_wp2
            replace BK351 := am (blk_drew BK351.out)
            replace BK352 := am (blk_drew BK352.out)
            replace BK353 := am (blk_drew BK353.out)
            replace HB := am (below_drew1 HB.out)
            have p380 : 0 ≤ (x10_2 : Int) := of_decide_eq_true (by first | (with_reducible assumption) | assumption)
            have q380 : x10_2 < (l4_0.length : Int) := of_decide_eq_true (by first | (with_reducible assumption) | assumption)
            obtain ⟨ad380, e380, hx380_0, hx380_1, hx380_2, hx380_3, hx380_4, hx380_5⟩ := at_T48 HR4_0.out x10_2 p380 q380
            have hw380_5 := hx380_5
            have hw380_4 := hx380_4
            have hw380_3 := hx380_3
            have hw380_2 := hx380_2
            have hw380_1 := hx380_1
            have hw380_0 := hx380_0
            obtain rfl : ad360 = ad380 := (by injection e380)
            replace hx380_0 := (HB.out.cell (World.block_lt_of_cell? w _ hx380_0)).trans hx380_0
            replace hx380_1 := (HB.out.cell (World.block_lt_of_cell? w _ hx380_1)).trans hx380_1
            replace hx380_2 := (HB.out.cell (World.block_lt_of_cell? w _ hx380_2)).trans hx380_2
            replace hx380_3 := (HB.out.cell (World.block_lt_of_cell? w _ hx380_3)).trans hx380_3
            replace hx380_4 := (HB.out.cell (World.block_lt_of_cell? w _ hx380_4)).trans hx380_4
            replace hx380_5 := (HB.out.cell (World.block_lt_of_cell? w _ hx380_5)).trans hx380_5
            replace p380 := eq_true p380
            replace q380 := eq_true q380
            refine start_ (n := 19) (S := fun w' => Hd gb gl gy gs ad360 l4_0 c4_0 x10_2 w') (ds := []) #[false, false, false, false, false, false, false, false, false, false, false, false, false, false, false, false, false, false, false] (by kernel_rfl) rfl rfl ⟨cA BK353 0, cA BK351 0, cB HB hw380_0, cB HB hw380_1, cB HB hw380_2, cB HB hw380_3, cB HB hw380_4, cB HB hw380_5⟩ (fun hHeld => ?_); refine with_tabW impl_MostBoats_1.tab6 impl_MostBoats_1.bits6 (fun HT_ HW_ => ?_)
            generalize w30.drew = w31 at BK351 BK352 BK353 HB hx380_0 hx380_1 hx380_2 hx380_3 hx380_4 hx380_5 hHeld ⊢
            refine pS (i := 1) (some 34) #[false, true, false, false, false, false, false, false, false, false, false, false, false, false, false, false, false, false, false] (any_of HT_.out (by kernel_rfl)) ?_
            refine pS (i := 2) (some 35) #[false, true, true, false, false, false, false, false, false, false, false, false, false, false, false, false, false, false, false] (any_of HT_.out (by kernel_rfl)) ?_
            refine pS (i := 4) (some 37) #[false, true, true, false, true, false, false, false, false, false, false, false, false, false, false, false, false, false, false] (any_of HT_.out (by kernel_rfl)) ?_
            refine pS (i := 6) (some 39) #[false, true, true, false, true, false, true, false, false, false, false, false, false, false, false, false, false, false, false] (any_of HT_.out (by kernel_rfl)) ?_
            refine pS (i := 10) (some 43) #[false, true, true, false, true, false, true, false, false, false, true, false, false, false, false, false, false, false, false] (any_of HT_.out (by kernel_rfl)) ?_
            refine pS (i := 13) (some 46) #[false, true, true, false, true, false, true, false, false, false, true, false, false, true, false, false, false, false, false] (any_of HT_.out (by kernel_rfl)) ?_
            refine tS (i := 0) (some 33) #[true, true, true, false, true, false, true, false, false, false, true, false, false, true, false, false, false, false, false] (take_ofW HT_.out HW_.out (by kernel_rfl)) hHeld ?_
            refine tS (i := 12) (some 45) #[true, true, true, false, true, false, true, false, false, false, true, false, true, true, false, false, false, false, false] (take_ofW HT_.out HW_.out (by kernel_rfl)) hHeld ?_
            refine pS (i := 14) (some 47) #[true, true, true, false, true, false, true, false, false, false, true, false, true, true, true, false, false, false, false] (any_of HT_.out (by kernel_rfl)) ?_
            refine tS (i := 15) (some 48) #[true, true, true, false, true, false, true, false, false, false, true, false, true, true, true, true, false, false, false] (take_ofW HT_.out HW_.out (by kernel_rfl)) hHeld ?_
            refine join_ (σ := Value × Value × Value × Value × Value × Value × Value) 2 #[true, true, true, true, true, true, true, true, true, true, true, true, true, true, true, true, true, false, false] (fun s_ => [(36, s_.1), (38, s_.2.1), (40, s_.2.2.1), (41, s_.2.2.2.1), (42, s_.2.2.2.2.1), (44, s_.2.2.2.2.2.1), (49, s_.2.2.2.2.2.2)]) (fun s_ w' => (Hd gb gl gy gs ad360 l4_0 c4_0 x10_2 w') ∧ (Kd.R (Kd.int .i64) 2 w' w.heap.size (fun k_ => some k_ ≠ (s_.2.2.2.1 : Value).ownBlock) s_.2.2.1 y368) ∧ (Kd.R (Kd.int .i64) 2 w' w.heap.size (fun k_ => some k_ ≠ (s_.2.2.1 : Value).ownBlock) s_.2.2.2.1 y371) ∧ (Kd.R k48 48 w' w.heap.size (fun k_ => some k_ ≠ (s_.2.2.2.2.2.2 : Value).ownBlock) s_.2.2.2.2.2.1 y377) ∧ (Kd.R k48 48 w' w.heap.size (fun k_ => some k_ ≠ (s_.2.2.2.2.2.1 : Value).ownBlock) s_.2.2.2.2.2.2 y381) ∧ (w'.heap[gl]? = some (.cells #[.slice (some ad360) l4_0.length c4_0] 34 (0, 0))) ∧ (w'.heap[gy]? = some (.cells (csBay a5_0 a5_1 a5_2) 32 (0, 0))) ∧ (w'.heap[gs]? = some (.cells #[fvS gb gl gy gs] 54 (0, 0))) ∧ (Below w.heap.size w w')) ?_ ?_
            rotate_left
            ·intro hJ3_5_7_8_9_11_16
             refine join_ (σ := Value × Value × Value × Value × Value × Value) 3 #[true, true, true, true, true, true, true, true, true, true, true, true, true, true, true, true, false, false, false] (fun s_ => [(36, s_.1), (38, s_.2.1), (40, s_.2.2.1), (41, s_.2.2.2.1), (42, s_.2.2.2.2.1), (44, s_.2.2.2.2.2)]) (fun s_ w' => (Hd gb gl gy gs ad360 l4_0 c4_0 x10_2 w') ∧ (Kd.R (Kd.int .i64) 2 w' w.heap.size (fun k_ => some k_ ≠ (s_.2.2.2.1 : Value).ownBlock) s_.2.2.1 y368) ∧ (Kd.R (Kd.int .i64) 2 w' w.heap.size (fun k_ => some k_ ≠ (s_.2.2.1 : Value).ownBlock) s_.2.2.2.1 y371) ∧ (Kd.R k48 48 w' w.heap.size (fun _ => True) s_.2.2.2.2.2 y377) ∧ (w'.heap[gl]? = some (.cells #[.slice (some ad360) l4_0.length c4_0] 34 (0, 0))) ∧ (w'.heap[gy]? = some (.cells (csBay a5_0 a5_1 a5_2) 32 (0, 0))) ∧ (w'.heap[gs]? = some (.cells #[fvS gb gl gy gs] 54 (0, 0))) ∧ (Below w.heap.size w w')) ?_ ?_
             rotate_left
             ·intro hJ3_5_7_8_9_11
              refine join_ (σ := Value × Value × Value × Value × Value × Value) 3 #[true, true, true, true, true, true, true, true, true, true, true, false, true, true, true, true, true, false, false] (fun s_ => [(36, s_.1), (38, s_.2.1), (40, s_.2.2.1), (41, s_.2.2.2.1), (42, s_.2.2.2.2.1), (49, s_.2.2.2.2.2)]) (fun s_ w' => (Hd gb gl gy gs ad360 l4_0 c4_0 x10_2 w') ∧ (Kd.R (Kd.int .i64) 2 w' w.heap.size (fun k_ => some k_ ≠ (s_.2.2.2.1 : Value).ownBlock) s_.2.2.1 y368) ∧ (Kd.R (Kd.int .i64) 2 w' w.heap.size (fun k_ => some k_ ≠ (s_.2.2.1 : Value).ownBlock) s_.2.2.2.1 y371) ∧ (Kd.R k48 48 w' w.heap.size (fun k_ => some k_ ≠ (s_.2.2.2.2.2 : Value).ownBlock) s_.2.2.2.2.1 y374) ∧ (Kd.R k48 48 w' w.heap.size (fun k_ => some k_ ≠ (s_.2.2.2.2.1 : Value).ownBlock) s_.2.2.2.2.2 y381) ∧ (w'.heap[gl]? = some (.cells #[.slice (some ad360) l4_0.length c4_0] 34 (0, 0))) ∧ (w'.heap[gy]? = some (.cells (csBay a5_0 a5_1 a5_2) 32 (0, 0))) ∧ (w'.heap[gs]? = some (.cells #[fvS gb gl gy gs] 54 (0, 0))) ∧ (Below w.heap.size w w')) ?_ ?_
              rotate_left
              ·intro hJ3_5_7_8_9_16
               refine join_ (σ := Value × Value × Value × Value × Value) 4 #[true, true, true, true, true, true, true, true, true, true, true, false, true, true, true, true, false, false, false] (fun s_ => [(36, s_.1), (38, s_.2.1), (40, s_.2.2.1), (41, s_.2.2.2.1), (42, s_.2.2.2.2)]) (fun s_ w' => (Hd gb gl gy gs ad360 l4_0 c4_0 x10_2 w') ∧ (Kd.R (Kd.int .i64) 2 w' w.heap.size (fun k_ => some k_ ≠ (s_.2.2.2.1 : Value).ownBlock) s_.2.2.1 y368) ∧ (Kd.R (Kd.int .i64) 2 w' w.heap.size (fun k_ => some k_ ≠ (s_.2.2.1 : Value).ownBlock) s_.2.2.2.1 y371) ∧ (Kd.R k48 48 w' w.heap.size (fun _ => True) s_.2.2.2.2 y374) ∧ (w'.heap[gl]? = some (.cells #[.slice (some ad360) l4_0.length c4_0] 34 (0, 0))) ∧ (w'.heap[gy]? = some (.cells (csBay a5_0 a5_1 a5_2) 32 (0, 0))) ∧ (w'.heap[gs]? = some (.cells #[fvS gb gl gy gs] 54 (0, 0))) ∧ (Below w.heap.size w w')) ?_ ?_
               rotate_left
               ·intro hJ3_5_7_8_9
                refine join_ (σ := Value × Value × Value × Value × Value) 4 #[true, true, true, true, true, true, true, true, true, false, true, false, true, true, true, true, true, false, false] (fun s_ => [(36, s_.1), (38, s_.2.1), (40, s_.2.2.1), (41, s_.2.2.2.1), (49, s_.2.2.2.2)]) (fun s_ w' => (Hd gb gl gy gs ad360 l4_0 c4_0 x10_2 w') ∧ (Kd.R (Kd.int .i64) 2 w' w.heap.size (fun k_ => some k_ ≠ (s_.2.2.2.1 : Value).ownBlock) s_.2.2.1 y368) ∧ (Kd.R (Kd.int .i64) 2 w' w.heap.size (fun k_ => some k_ ≠ (s_.2.2.1 : Value).ownBlock) s_.2.2.2.1 y371) ∧ (Kd.R k48 48 w' w.heap.size (fun _ => True) s_.2.2.2.2 y381) ∧ (w'.heap[gl]? = some (.cells #[.slice (some ad360) l4_0.length c4_0] 34 (0, 0))) ∧ (w'.heap[gy]? = some (.cells (csBay a5_0 a5_1 a5_2) 32 (0, 0))) ∧ (w'.heap[gs]? = some (.cells #[fvS gb gl gy gs] 54 (0, 0))) ∧ (Below w.heap.size w w')) ?_ ?_
                rotate_left
                ·intro hJ3_5_7_8_16
                 refine join_ (σ := Value × Value × Value × Value × Value) 4 #[true, true, true, true, true, true, true, true, false, true, true, false, true, true, true, true, true, false, false] (fun s_ => [(36, s_.1), (38, s_.2.1), (40, s_.2.2.1), (42, s_.2.2.2.1), (49, s_.2.2.2.2)]) (fun s_ w' => (Hd gb gl gy gs ad360 l4_0 c4_0 x10_2 w') ∧ (Kd.R (Kd.int .i64) 2 w' w.heap.size (fun k_ => some k_ ≠ (s_.2.2.1 : Value).ownBlock) s_.2.1 y365) ∧ (Kd.R (Kd.int .i64) 2 w' w.heap.size (fun k_ => some k_ ≠ (s_.2.1 : Value).ownBlock) s_.2.2.1 y368) ∧ (Kd.R k48 48 w' w.heap.size (fun k_ => some k_ ≠ (s_.2.2.2.2 : Value).ownBlock) s_.2.2.2.1 y374) ∧ (Kd.R k48 48 w' w.heap.size (fun k_ => some k_ ≠ (s_.2.2.2.1 : Value).ownBlock) s_.2.2.2.2 y381) ∧ (w'.heap[gl]? = some (.cells #[.slice (some ad360) l4_0.length c4_0] 34 (0, 0))) ∧ (w'.heap[gy]? = some (.cells (csBay a5_0 a5_1 a5_2) 32 (0, 0))) ∧ (w'.heap[gs]? = some (.cells #[fvS gb gl gy gs] 54 (0, 0))) ∧ (Below w.heap.size w w')) ?_ ?_
                 rotate_left
                 ·intro hJ3_5_7_9_16
                  refine join_ (σ := Value × Value × Value × Value) 5 #[true, true, true, true, true, true, true, true, true, false, true, false, true, true, true, true, false, false, false] (fun s_ => [(36, s_.1), (38, s_.2.1), (40, s_.2.2.1), (41, s_.2.2.2)]) (fun s_ w' => (Hd gb gl gy gs ad360 l4_0 c4_0 x10_2 w') ∧ (Kd.R (Kd.int .i64) 2 w' w.heap.size (fun k_ => some k_ ≠ (s_.2.2.2 : Value).ownBlock) s_.2.2.1 y368) ∧ (Kd.R (Kd.int .i64) 2 w' w.heap.size (fun k_ => some k_ ≠ (s_.2.2.1 : Value).ownBlock) s_.2.2.2 y371) ∧ (w'.heap[gl]? = some (.cells #[.slice (some ad360) l4_0.length c4_0] 34 (0, 0))) ∧ (w'.heap[gy]? = some (.cells (csBay a5_0 a5_1 a5_2) 32 (0, 0))) ∧ (w'.heap[gs]? = some (.cells #[fvS gb gl gy gs] 54 (0, 0))) ∧ (Below w.heap.size w w')) ?_ ?_
                  rotate_left
                  ·intro hJ3_5_7_8
                   refine join_ (σ := Value × Value × Value × Value) 5 #[true, true, true, true, true, true, true, true, false, true, true, false, true, true, true, true, false, false, false] (fun s_ => [(36, s_.1), (38, s_.2.1), (40, s_.2.2.1), (42, s_.2.2.2)]) (fun s_ w' => (Hd gb gl gy gs ad360 l4_0 c4_0 x10_2 w') ∧ (Kd.R (Kd.int .i64) 2 w' w.heap.size (fun k_ => some k_ ≠ (s_.2.2.1 : Value).ownBlock) s_.2.1 y365) ∧ (Kd.R (Kd.int .i64) 2 w' w.heap.size (fun k_ => some k_ ≠ (s_.2.1 : Value).ownBlock) s_.2.2.1 y368) ∧ (Kd.R k48 48 w' w.heap.size (fun _ => True) s_.2.2.2 y374) ∧ (w'.heap[gl]? = some (.cells #[.slice (some ad360) l4_0.length c4_0] 34 (0, 0))) ∧ (w'.heap[gy]? = some (.cells (csBay a5_0 a5_1 a5_2) 32 (0, 0))) ∧ (w'.heap[gs]? = some (.cells #[fvS gb gl gy gs] 54 (0, 0))) ∧ (Below w.heap.size w w')) ?_ ?_
                   rotate_left
                   ·intro hJ3_5_7_9
                    refine join_ (σ := Value × Value × Value × Value) 5 #[true, true, true, true, true, true, true, true, false, false, true, false, true, true, true, true, true, false, false] (fun s_ => [(36, s_.1), (38, s_.2.1), (40, s_.2.2.1), (49, s_.2.2.2)]) (fun s_ w' => (Hd gb gl gy gs ad360 l4_0 c4_0 x10_2 w') ∧ (Kd.R (Kd.int .i64) 2 w' w.heap.size (fun k_ => some k_ ≠ (s_.2.2.1 : Value).ownBlock) s_.2.1 y365) ∧ (Kd.R (Kd.int .i64) 2 w' w.heap.size (fun k_ => some k_ ≠ (s_.2.1 : Value).ownBlock) s_.2.2.1 y368) ∧ (Kd.R k48 48 w' w.heap.size (fun _ => True) s_.2.2.2 y381) ∧ (w'.heap[gl]? = some (.cells #[.slice (some ad360) l4_0.length c4_0] 34 (0, 0))) ∧ (w'.heap[gy]? = some (.cells (csBay a5_0 a5_1 a5_2) 32 (0, 0))) ∧ (w'.heap[gs]? = some (.cells #[fvS gb gl gy gs] 54 (0, 0))) ∧ (Below w.heap.size w w')) ?_ ?_
                    rotate_left
                    ·intro hJ3_5_7_16
                     refine join_ (σ := Value × Value × Value × Value) 5 #[true, true, true, true, true, true, true, false, false, true, true, false, true, true, true, true, true, false, false] (fun s_ => [(36, s_.1), (38, s_.2.1), (42, s_.2.2.1), (49, s_.2.2.2)]) (fun s_ w' => (Hd gb gl gy gs ad360 l4_0 c4_0 x10_2 w') ∧ (Kd.R (Kd.int .i64) 2 w' w.heap.size (fun _ => True) s_.2.1 y365) ∧ (Kd.R k48 48 w' w.heap.size (fun k_ => some k_ ≠ (s_.2.2.2 : Value).ownBlock) s_.2.2.1 y374) ∧ (Kd.R k48 48 w' w.heap.size (fun k_ => some k_ ≠ (s_.2.2.1 : Value).ownBlock) s_.2.2.2 y381) ∧ (w'.heap[gl]? = some (.cells #[.slice (some ad360) l4_0.length c4_0] 34 (0, 0))) ∧ (w'.heap[gy]? = some (.cells (csBay a5_0 a5_1 a5_2) 32 (0, 0))) ∧ (w'.heap[gs]? = some (.cells #[fvS gb gl gy gs] 54 (0, 0))) ∧ (Below w.heap.size w w')) ?_ ?_
                     rotate_left
                     ·intro hJ3_5_9_16
                      refine join_ (σ := Value × Value × Value × Value) 5 #[true, true, true, true, true, false, true, true, false, true, true, false, true, true, true, true, true, false, false] (fun s_ => [(36, s_.1), (40, s_.2.1), (42, s_.2.2.1), (49, s_.2.2.2)]) (fun s_ w' => (Hd gb gl gy gs ad360 l4_0 c4_0 x10_2 w') ∧ (Kd.R (Kd.int .i64) 2 w' w.heap.size (fun k_ => some k_ ≠ (s_.2.1 : Value).ownBlock) s_.1 y362) ∧ (Kd.R (Kd.int .i64) 2 w' w.heap.size (fun k_ => some k_ ≠ (s_.1 : Value).ownBlock) s_.2.1 y368) ∧ (Kd.R k48 48 w' w.heap.size (fun k_ => some k_ ≠ (s_.2.2.2 : Value).ownBlock) s_.2.2.1 y374) ∧ (Kd.R k48 48 w' w.heap.size (fun k_ => some k_ ≠ (s_.2.2.1 : Value).ownBlock) s_.2.2.2 y381) ∧ (w'.heap[gl]? = some (.cells #[.slice (some ad360) l4_0.length c4_0] 34 (0, 0))) ∧ (w'.heap[gy]? = some (.cells (csBay a5_0 a5_1 a5_2) 32 (0, 0))) ∧ (w'.heap[gs]? = some (.cells #[fvS gb gl gy gs] 54 (0, 0))) ∧ (Below w.heap.size w w')) ?_ ?_
                      rotate_left
                      ·intro hJ3_7_9_16
                       refine join_ (σ := Value × Value × Value) 6 #[true, true, true, true, true, true, true, true, false, false, true, false, true, true, true, true, false, false, false] (fun s_ => [(36, s_.1), (38, s_.2.1), (40, s_.2.2)]) (fun s_ w' => (Hd gb gl gy gs ad360 l4_0 c4_0 x10_2 w') ∧ (Kd.R (Kd.int .i64) 2 w' w.heap.size (fun k_ => some k_ ≠ (s_.2.2 : Value).ownBlock) s_.2.1 y365) ∧ (Kd.R (Kd.int .i64) 2 w' w.heap.size (fun k_ => some k_ ≠ (s_.2.1 : Value).ownBlock) s_.2.2 y368) ∧ (w'.heap[gl]? = some (.cells #[.slice (some ad360) l4_0.length c4_0] 34 (0, 0))) ∧ (w'.heap[gy]? = some (.cells (csBay a5_0 a5_1 a5_2) 32 (0, 0))) ∧ (w'.heap[gs]? = some (.cells #[fvS gb gl gy gs] 54 (0, 0))) ∧ (Below w.heap.size w w')) ?_ ?_
                       rotate_left
                       ·intro hJ3_5_7
                        refine join_ (σ := Value × Value × Value) 6 #[true, true, true, true, true, true, true, false, false, true, true, false, true, true, true, true, false, false, false] (fun s_ => [(36, s_.1), (38, s_.2.1), (42, s_.2.2)]) (fun s_ w' => (Hd gb gl gy gs ad360 l4_0 c4_0 x10_2 w') ∧ (Kd.R (Kd.int .i64) 2 w' w.heap.size (fun _ => True) s_.2.1 y365) ∧ (Kd.R k48 48 w' w.heap.size (fun _ => True) s_.2.2 y374) ∧ (w'.heap[gl]? = some (.cells #[.slice (some ad360) l4_0.length c4_0] 34 (0, 0))) ∧ (w'.heap[gy]? = some (.cells (csBay a5_0 a5_1 a5_2) 32 (0, 0))) ∧ (w'.heap[gs]? = some (.cells #[fvS gb gl gy gs] 54 (0, 0))) ∧ (Below w.heap.size w w')) ?_ ?_
                        rotate_left
                        ·intro hJ3_5_9
                         refine join_ (σ := Value × Value × Value) 6 #[true, true, true, true, true, true, true, false, false, false, true, false, true, true, true, true, true, false, false] (fun s_ => [(36, s_.1), (38, s_.2.1), (49, s_.2.2)]) (fun s_ w' => (Hd gb gl gy gs ad360 l4_0 c4_0 x10_2 w') ∧ (Kd.R (Kd.int .i64) 2 w' w.heap.size (fun _ => True) s_.2.1 y365) ∧ (Kd.R k48 48 w' w.heap.size (fun _ => True) s_.2.2 y381) ∧ (w'.heap[gl]? = some (.cells #[.slice (some ad360) l4_0.length c4_0] 34 (0, 0))) ∧ (w'.heap[gy]? = some (.cells (csBay a5_0 a5_1 a5_2) 32 (0, 0))) ∧ (w'.heap[gs]? = some (.cells #[fvS gb gl gy gs] 54 (0, 0))) ∧ (Below w.heap.size w w')) ?_ ?_
                         rotate_left
                         ·intro hJ3_5_16
                          refine join_ (σ := Value × Value × Value) 6 #[true, true, true, true, true, false, true, true, false, true, true, false, true, true, true, true, false, false, false] (fun s_ => [(36, s_.1), (40, s_.2.1), (42, s_.2.2)]) (fun s_ w' => (Hd gb gl gy gs ad360 l4_0 c4_0 x10_2 w') ∧ (Kd.R (Kd.int .i64) 2 w' w.heap.size (fun k_ => some k_ ≠ (s_.2.1 : Value).ownBlock) s_.1 y362) ∧ (Kd.R (Kd.int .i64) 2 w' w.heap.size (fun k_ => some k_ ≠ (s_.1 : Value).ownBlock) s_.2.1 y368) ∧ (Kd.R k48 48 w' w.heap.size (fun _ => True) s_.2.2 y374) ∧ (w'.heap[gl]? = some (.cells #[.slice (some ad360) l4_0.length c4_0] 34 (0, 0))) ∧ (w'.heap[gy]? = some (.cells (csBay a5_0 a5_1 a5_2) 32 (0, 0))) ∧ (w'.heap[gs]? = some (.cells #[fvS gb gl gy gs] 54 (0, 0))) ∧ (Below w.heap.size w w')) ?_ ?_
                          rotate_left
                          ·intro hJ3_7_9
                           refine join_ (σ := Value × Value × Value) 6 #[true, true, true, true, true, false, true, true, false, false, true, false, true, true, true, true, true, false, false] (fun s_ => [(36, s_.1), (40, s_.2.1), (49, s_.2.2)]) (fun s_ w' => (Hd gb gl gy gs ad360 l4_0 c4_0 x10_2 w') ∧ (Kd.R (Kd.int .i64) 2 w' w.heap.size (fun k_ => some k_ ≠ (s_.2.1 : Value).ownBlock) s_.1 y362) ∧ (Kd.R (Kd.int .i64) 2 w' w.heap.size (fun k_ => some k_ ≠ (s_.1 : Value).ownBlock) s_.2.1 y368) ∧ (Kd.R k48 48 w' w.heap.size (fun _ => True) s_.2.2 y381) ∧ (w'.heap[gl]? = some (.cells #[.slice (some ad360) l4_0.length c4_0] 34 (0, 0))) ∧ (w'.heap[gy]? = some (.cells (csBay a5_0 a5_1 a5_2) 32 (0, 0))) ∧ (w'.heap[gs]? = some (.cells #[fvS gb gl gy gs] 54 (0, 0))) ∧ (Below w.heap.size w w')) ?_ ?_
                           rotate_left
                           ·intro hJ3_7_16
                            refine join_ (σ := Value × Value × Value) 6 #[true, true, true, true, true, false, true, false, false, true, true, false, true, true, true, true, true, false, false] (fun s_ => [(36, s_.1), (42, s_.2.1), (49, s_.2.2)]) (fun s_ w' => (Hd gb gl gy gs ad360 l4_0 c4_0 x10_2 w') ∧ (Kd.R (Kd.int .i64) 2 w' w.heap.size (fun _ => True) s_.1 y362) ∧ (Kd.R k48 48 w' w.heap.size (fun k_ => some k_ ≠ (s_.2.2 : Value).ownBlock) s_.2.1 y374) ∧ (Kd.R k48 48 w' w.heap.size (fun k_ => some k_ ≠ (s_.2.1 : Value).ownBlock) s_.2.2 y381) ∧ (w'.heap[gl]? = some (.cells #[.slice (some ad360) l4_0.length c4_0] 34 (0, 0))) ∧ (w'.heap[gy]? = some (.cells (csBay a5_0 a5_1 a5_2) 32 (0, 0))) ∧ (w'.heap[gs]? = some (.cells #[fvS gb gl gy gs] 54 (0, 0))) ∧ (Below w.heap.size w w')) ?_ ?_
                            rotate_left
                            ·intro hJ3_9_16
                             refine join_ (σ := Value × Value × Value) 6 #[true, true, true, false, true, false, true, true, false, true, true, false, true, true, true, true, true, false, false] (fun s_ => [(40, s_.1), (42, s_.2.1), (49, s_.2.2)]) (fun s_ w' => (Hd gb gl gy gs ad360 l4_0 c4_0 x10_2 w') ∧ (Kd.R (Kd.int .i64) 2 w' w.heap.size (fun _ => True) s_.1 y368) ∧ (Kd.R k48 48 w' w.heap.size (fun k_ => some k_ ≠ (s_.2.2 : Value).ownBlock) s_.2.1 y374) ∧ (Kd.R k48 48 w' w.heap.size (fun k_ => some k_ ≠ (s_.2.1 : Value).ownBlock) s_.2.2 y381) ∧ (w'.heap[gl]? = some (.cells #[.slice (some ad360) l4_0.length c4_0] 34 (0, 0))) ∧ (w'.heap[gy]? = some (.cells (csBay a5_0 a5_1 a5_2) 32 (0, 0))) ∧ (w'.heap[gs]? = some (.cells #[fvS gb gl gy gs] 54 (0, 0))) ∧ (Below w.heap.size w w')) ?_ ?_
                             rotate_left
                             ·intro hJ7_9_16
                              refine join_ (σ := Value × Value) 7 #[true, true, true, true, true, true, true, false, false, false, true, false, true, true, true, true, false, false, false] (fun s_ => [(36, s_.1), (38, s_.2)]) (fun s_ w' => (Hd gb gl gy gs ad360 l4_0 c4_0 x10_2 w') ∧ (Kd.R (Kd.int .i64) 2 w' w.heap.size (fun _ => True) s_.2 y365) ∧ (w'.heap[gl]? = some (.cells #[.slice (some ad360) l4_0.length c4_0] 34 (0, 0))) ∧ (w'.heap[gy]? = some (.cells (csBay a5_0 a5_1 a5_2) 32 (0, 0))) ∧ (w'.heap[gs]? = some (.cells #[fvS gb gl gy gs] 54 (0, 0))) ∧ (Below w.heap.size w w')) ?_ ?_
                              rotate_left
                              ·intro hJ3_5
                               refine join_ (σ := Value × Value) 7 #[true, true, true, true, true, false, true, true, false, false, true, false, true, true, true, true, false, false, false] (fun s_ => [(36, s_.1), (40, s_.2)]) (fun s_ w' => (Hd gb gl gy gs ad360 l4_0 c4_0 x10_2 w') ∧ (Kd.R (Kd.int .i64) 2 w' w.heap.size (fun k_ => some k_ ≠ (s_.2 : Value).ownBlock) s_.1 y362) ∧ (Kd.R (Kd.int .i64) 2 w' w.heap.size (fun k_ => some k_ ≠ (s_.1 : Value).ownBlock) s_.2 y368) ∧ (w'.heap[gl]? = some (.cells #[.slice (some ad360) l4_0.length c4_0] 34 (0, 0))) ∧ (w'.heap[gy]? = some (.cells (csBay a5_0 a5_1 a5_2) 32 (0, 0))) ∧ (w'.heap[gs]? = some (.cells #[fvS gb gl gy gs] 54 (0, 0))) ∧ (Below w.heap.size w w')) ?_ ?_
                               rotate_left
                               ·intro hJ3_7
                                refine join_ (σ := Value × Value) 7 #[true, true, true, true, true, false, true, false, false, true, true, false, true, true, true, true, false, false, false] (fun s_ => [(36, s_.1), (42, s_.2)]) (fun s_ w' => (Hd gb gl gy gs ad360 l4_0 c4_0 x10_2 w') ∧ (Kd.R (Kd.int .i64) 2 w' w.heap.size (fun _ => True) s_.1 y362) ∧ (Kd.R k48 48 w' w.heap.size (fun _ => True) s_.2 y374) ∧ (w'.heap[gl]? = some (.cells #[.slice (some ad360) l4_0.length c4_0] 34 (0, 0))) ∧ (w'.heap[gy]? = some (.cells (csBay a5_0 a5_1 a5_2) 32 (0, 0))) ∧ (w'.heap[gs]? = some (.cells #[fvS gb gl gy gs] 54 (0, 0))) ∧ (Below w.heap.size w w')) ?_ ?_
                                rotate_left
                                ·intro hJ3_9
                                 refine join_ (σ := Value × Value) 7 #[true, true, true, true, true, false, true, false, false, false, true, false, true, true, true, true, true, false, false] (fun s_ => [(36, s_.1), (49, s_.2)]) (fun s_ w' => (Hd gb gl gy gs ad360 l4_0 c4_0 x10_2 w') ∧ (Kd.R (Kd.int .i64) 2 w' w.heap.size (fun _ => True) s_.1 y362) ∧ (Kd.R k48 48 w' w.heap.size (fun _ => True) s_.2 y381) ∧ (w'.heap[gl]? = some (.cells #[.slice (some ad360) l4_0.length c4_0] 34 (0, 0))) ∧ (w'.heap[gy]? = some (.cells (csBay a5_0 a5_1 a5_2) 32 (0, 0))) ∧ (w'.heap[gs]? = some (.cells #[fvS gb gl gy gs] 54 (0, 0))) ∧ (Below w.heap.size w w')) ?_ ?_
                                 rotate_left
                                 ·intro hJ3_16
                                  refine join_ (σ := Value × Value) 7 #[true, true, true, false, true, false, true, true, false, true, true, false, true, true, true, true, false, false, false] (fun s_ => [(40, s_.1), (42, s_.2)]) (fun s_ w' => (Hd gb gl gy gs ad360 l4_0 c4_0 x10_2 w') ∧ (Kd.R (Kd.int .i64) 2 w' w.heap.size (fun _ => True) s_.1 y368) ∧ (Kd.R k48 48 w' w.heap.size (fun _ => True) s_.2 y374) ∧ (w'.heap[gl]? = some (.cells #[.slice (some ad360) l4_0.length c4_0] 34 (0, 0))) ∧ (w'.heap[gy]? = some (.cells (csBay a5_0 a5_1 a5_2) 32 (0, 0))) ∧ (w'.heap[gs]? = some (.cells #[fvS gb gl gy gs] 54 (0, 0))) ∧ (Below w.heap.size w w')) ?_ ?_
                                  rotate_left
                                  ·intro hJ7_9
                                   refine join_ (σ := Value × Value) 7 #[true, true, true, false, true, false, true, true, false, false, true, false, true, true, true, true, true, false, false] (fun s_ => [(40, s_.1), (49, s_.2)]) (fun s_ w' => (Hd gb gl gy gs ad360 l4_0 c4_0 x10_2 w') ∧ (Kd.R (Kd.int .i64) 2 w' w.heap.size (fun _ => True) s_.1 y368) ∧ (Kd.R k48 48 w' w.heap.size (fun _ => True) s_.2 y381) ∧ (w'.heap[gl]? = some (.cells #[.slice (some ad360) l4_0.length c4_0] 34 (0, 0))) ∧ (w'.heap[gy]? = some (.cells (csBay a5_0 a5_1 a5_2) 32 (0, 0))) ∧ (w'.heap[gs]? = some (.cells #[fvS gb gl gy gs] 54 (0, 0))) ∧ (Below w.heap.size w w')) ?_ ?_
                                   rotate_left
                                   ·intro hJ7_16
                                    refine join_ (σ := Value × Value) 7 #[true, true, true, false, true, false, true, false, false, true, true, false, true, true, true, true, true, false, false] (fun s_ => [(42, s_.1), (49, s_.2)]) (fun s_ w' => (Hd gb gl gy gs ad360 l4_0 c4_0 x10_2 w') ∧ (Kd.R k48 48 w' w.heap.size (fun k_ => some k_ ≠ (s_.2 : Value).ownBlock) s_.1 y374) ∧ (Kd.R k48 48 w' w.heap.size (fun k_ => some k_ ≠ (s_.1 : Value).ownBlock) s_.2 y381) ∧ (w'.heap[gl]? = some (.cells #[.slice (some ad360) l4_0.length c4_0] 34 (0, 0))) ∧ (w'.heap[gy]? = some (.cells (csBay a5_0 a5_1 a5_2) 32 (0, 0))) ∧ (w'.heap[gs]? = some (.cells #[fvS gb gl gy gs] 54 (0, 0))) ∧ (Below w.heap.size w w')) ?_ ?_
                                    rotate_left
                                    ·intro hJ9_16
                                     refine join_ (σ := Value) 8 #[true, true, true, true, true, false, true, false, false, false, true, false, true, true, true, true, false, false, false] (fun s_ => [(36, s_)]) (fun s_ w' => (Hd gb gl gy gs ad360 l4_0 c4_0 x10_2 w') ∧ (Kd.R (Kd.int .i64) 2 w' w.heap.size (fun _ => True) s_ y362) ∧ (w'.heap[gl]? = some (.cells #[.slice (some ad360) l4_0.length c4_0] 34 (0, 0))) ∧ (w'.heap[gy]? = some (.cells (csBay a5_0 a5_1 a5_2) 32 (0, 0))) ∧ (w'.heap[gs]? = some (.cells #[fvS gb gl gy gs] 54 (0, 0))) ∧ (Below w.heap.size w w')) ?_ ?_
                                     rotate_left
                                     ·intro hJ3
                                      refine join_ (σ := Value) 8 #[true, true, true, false, true, false, true, true, false, false, true, false, true, true, true, true, false, false, false] (fun s_ => [(40, s_)]) (fun s_ w' => (Hd gb gl gy gs ad360 l4_0 c4_0 x10_2 w') ∧ (Kd.R (Kd.int .i64) 2 w' w.heap.size (fun _ => True) s_ y368) ∧ (w'.heap[gl]? = some (.cells #[.slice (some ad360) l4_0.length c4_0] 34 (0, 0))) ∧ (w'.heap[gy]? = some (.cells (csBay a5_0 a5_1 a5_2) 32 (0, 0))) ∧ (w'.heap[gs]? = some (.cells #[fvS gb gl gy gs] 54 (0, 0))) ∧ (Below w.heap.size w w')) ?_ ?_
                                      rotate_left
                                      ·intro hJ7
                                       refine join_ (σ := Value) 8 #[true, true, true, false, true, false, true, false, false, true, true, false, true, true, true, true, false, false, false] (fun s_ => [(42, s_)]) (fun s_ w' => (Hd gb gl gy gs ad360 l4_0 c4_0 x10_2 w') ∧ (Kd.R k48 48 w' w.heap.size (fun _ => True) s_ y374) ∧ (w'.heap[gl]? = some (.cells #[.slice (some ad360) l4_0.length c4_0] 34 (0, 0))) ∧ (w'.heap[gy]? = some (.cells (csBay a5_0 a5_1 a5_2) 32 (0, 0))) ∧ (w'.heap[gs]? = some (.cells #[fvS gb gl gy gs] 54 (0, 0))) ∧ (Below w.heap.size w w')) ?_ ?_
                                       rotate_left
                                       ·intro hJ9
                                        refine join_ (σ := Value) 8 #[true, true, true, false, true, false, true, false, false, false, true, false, true, true, true, true, true, false, false] (fun s_ => [(49, s_)]) (fun s_ w' => (Hd gb gl gy gs ad360 l4_0 c4_0 x10_2 w') ∧ (Kd.R k48 48 w' w.heap.size (fun _ => True) s_ y381) ∧ (w'.heap[gl]? = some (.cells #[.slice (some ad360) l4_0.length c4_0] 34 (0, 0))) ∧ (w'.heap[gy]? = some (.cells (csBay a5_0 a5_1 a5_2) 32 (0, 0))) ∧ (w'.heap[gs]? = some (.cells #[fvS gb gl gy gs] 54 (0, 0))) ∧ (Below w.heap.size w w')) ?_ ?_
                                        rotate_left
                                        ·intro hJ16
                                         refine four_ (i := 3) (j := 7) (k := 9) (m := 16) (Ni := some 36) (Nj := some 40) (Nk := some 42) (Nm := some 49) #[true, true, true, true, true, false, true, false, false, false, true, false, true, true, true, true, false, false, false] #[true, true, true, false, true, false, true, true, false, false, true, false, true, true, true, true, false, false, false] #[true, true, true, false, true, false, true, false, false, true, true, false, true, true, true, true, false, false, false] #[true, true, true, false, true, false, true, false, false, false, true, false, true, true, true, true, true, false, false] rfl rfl rfl rfl rfl rfl rfl rfl (four_of HT_.out (by kernel_rfl)) (by decide) (by decide) (by decide) (by decide) (fun K hK => ?_) (fun K hK => ?_) (fun K hK => ?_) (fun K hK => ?_)
                                         ·skip
                                          refine Kd.R_lit_step (Kd.int .i64) _ 2 ?hg (N := 36) ?hd (xs := ([] : List Int)) (inner := []) (ok := fun _ => True) (okp := fun _ => True) ?hr ?hp (fun _ hk => hk) trivial (Below.refl _ _) (Nat.le_refl _) (by simp) ?_; (case hd => rfl); (case hg => rfl); (case hr => first | (go_simp; done) | (go_simp; rfl)); (case hp => exact (Reps.none _ _))
                                          intro v363 w32 ho33 hb hg_ hnew_
                                          clear hg_ hnew_
                                          (first | rw [← Ny362.out] at ho33 | (simp only [Int.reduceToNat] at ho33; rw [← Ny362.out] at ho33))
                                          have HO364 := am (Kd.R_lower ho33 (below_size (be HB)))
                                          replace BK351 := bB BK351 hb
                                          replace BK352 := bB BK352 hb
                                          replace BK353 := bB BK353 hb
                                          replace HB := am (below_step (be HB) hb)
                                          clear hb ho33
                                          refine hK.out _ _ ⟨cA BK353 0, cA BK351 0, cB HB hw380_0, cB HB hw380_1, cB HB hw380_2, cB HB hw380_3, cB HB hw380_4, cB HB hw380_5⟩ (fun hHeld => ?_)
                                          clear hK K
                                          refine nP ?_
                                          exact nD (hJ3 (v363) _ ⟨hHeld, (kr HO364), (kb BK351), (kb BK352), (kb BK353), (be HB)⟩)
                                         ·skip
                                          refine Kd.R_lit_step (Kd.int .i64) _ 2 ?hg (N := 40) ?hd (xs := ([x10_2] : List Int)) (inner := [.int .i64 x10_2]) (ok := fun _ => True) (okp := fun _ => True) ?hr ?hp (fun _ hk => hk) trivial (Below.refl _ _) (Nat.le_refl _) (by simp) ?_; (case hd => rfl); (case hg => rfl); (case hr => first | (go_simp; done) | (go_simp; rfl)); (case hp => exact (Reps.one (show Kd.M (Kd.int .i64) _ _ _ x10_2 [.int .i64 x10_2] from rfl) (Reps.none _ _)))
                                          intro v369 w32 ho33 hb hg_ hnew_
                                          clear hg_ hnew_
                                          (first | rw [← Ny368.out] at ho33 | (simp only [Int.reduceToNat] at ho33; rw [← Ny368.out] at ho33))
                                          have HO370 := am (Kd.R_lower ho33 (below_size (be HB)))
                                          replace BK351 := bB BK351 hb
                                          replace BK352 := bB BK352 hb
                                          replace BK353 := bB BK353 hb
                                          replace HB := am (below_step (be HB) hb)
                                          clear hb ho33
                                          refine hK.out _ _ ⟨cA BK353 0, cA BK351 0, cB HB hw380_0, cB HB hw380_1, cB HB hw380_2, cB HB hw380_3, cB HB hw380_4, cB HB hw380_5⟩ (fun hHeld => ?_)
                                          clear hK K
                                          refine nP ?_
                                          exact nD (hJ7 (v369) _ ⟨hHeld, (kr HO370), (kb BK351), (kb BK352), (kb BK353), (be HB)⟩)
                                         ·skip
                                          refine Kd.R_lit_step k48 _ 48 ?hg (N := 42) ?hd (xs := ([] : List (S48))) (inner := []) (ok := fun _ => True) (okp := fun _ => True) ?hr ?hp (fun _ hk => hk) trivial (Below.refl _ _) (Nat.le_refl _) (by simp) ?_; (case hd => rfl); (case hg => rfl); (case hr => first | (go_simp; done) | (go_simp; rfl)); (case hp => exact (Reps.none _ _))
                                          intro v375 w32 ho33 hb hg_ hnew_
                                          clear hg_ hnew_
                                          (first | rw [← Ny374.out] at ho33 | (simp only [Int.reduceToNat] at ho33; rw [← Ny374.out] at ho33))
                                          have HO376 := am (Kd.R_lower ho33 (below_size (be HB)))
                                          replace BK351 := bB BK351 hb
                                          replace BK352 := bB BK352 hb
                                          replace BK353 := bB BK353 hb
                                          replace HB := am (below_step (be HB) hb)
                                          clear hb ho33
                                          refine hK.out _ _ ⟨cA BK353 0, cA BK351 0, cB HB hw380_0, cB HB hw380_1, cB HB hw380_2, cB HB hw380_3, cB HB hw380_4, cB HB hw380_5⟩ (fun hHeld => ?_)
                                          clear hK K
                                          refine nP ?_
                                          exact nD (hJ9 (v375) _ ⟨hHeld, (kr HO376), (kb BK351), (kb BK352), (kb BK353), (be HB)⟩)
                                         refine Kd.R_lit_step k48 _ 48 ?hg (N := 49) ?hd (xs := ([(⟨(⟨(rd_T48 l4_0 x10_2).f0.f0, (rd_T48 l4_0 x10_2).f0.f1⟩ : S46), (rd_T48 l4_0 x10_2).f1, (rd_T48 l4_0 x10_2).f2, (rd_T48 l4_0 x10_2).f3, (rd_T48 l4_0 x10_2).f4⟩ : S48)] : List (S48))) (inner := [.int .i8 ((rd_T48 l4_0 x10_2).f0.f0), .int .i8 ((rd_T48 l4_0 x10_2).f0.f1), .int .i8 ((rd_T48 l4_0 x10_2).f1), .int .i8 ((rd_T48 l4_0 x10_2).f2), .int .i8 ((rd_T48 l4_0 x10_2).f3), .int .i8 ((rd_T48 l4_0 x10_2).f4)]) (ok := fun _ => True) (okp := fun _ => True) ?hr ?hp (fun _ hk => hk) trivial (Below.refl _ _) (Nat.le_refl _) (by simp) ?_; (case hd => rfl); (case hg => rfl); (case hr => first | (go_simp; done) | (go_simp; rfl)); (case hp => exact (Reps.c6 (show Kd.M k48 _ _ _ (⟨(⟨(rd_T48 l4_0 x10_2).f0.f0, (rd_T48 l4_0 x10_2).f0.f1⟩ : S46), (rd_T48 l4_0 x10_2).f1, (rd_T48 l4_0 x10_2).f2, (rd_T48 l4_0 x10_2).f3, (rd_T48 l4_0 x10_2).f4⟩ : S48) [.int .i8 ((rd_T48 l4_0 x10_2).f0.f0), .int .i8 ((rd_T48 l4_0 x10_2).f0.f1), .int .i8 ((rd_T48 l4_0 x10_2).f1), .int .i8 ((rd_T48 l4_0 x10_2).f2), .int .i8 ((rd_T48 l4_0 x10_2).f3), .int .i8 ((rd_T48 l4_0 x10_2).f4)] from (k48_mkM _ _ _ (⟨(⟨(rd_T48 l4_0 x10_2).f0.f0, (rd_T48 l4_0 x10_2).f0.f1⟩ : S46), (rd_T48 l4_0 x10_2).f1, (rd_T48 l4_0 x10_2).f2, (rd_T48 l4_0 x10_2).f3, (rd_T48 l4_0 x10_2).f4⟩ : S48) )) (Reps.none _ _)))
                                         intro v382 w32 ho33 hb hg_ hnew_
                                         clear hg_ hnew_
                                         (first | rw [← Ny381.out] at ho33 | (simp only [Int.reduceToNat] at ho33; rw [← Ny381.out] at ho33))
                                         have HO383 := am (Kd.R_lower ho33 (below_size (be HB)))
                                         replace BK351 := bB BK351 hb
                                         replace BK352 := bB BK352 hb
                                         replace BK353 := bB BK353 hb
                                         replace HB := am (below_step (be HB) hb)
                                         clear hb ho33
                                         refine hK.out _ _ ⟨cA BK353 0, cA BK351 0, cB HB hw380_0, cB HB hw380_1, cB HB hw380_2, cB HB hw380_3, cB HB hw380_4, cB HB hw380_5⟩ (fun hHeld => ?_)
                                         clear hK K
                                         refine nP ?_
                                         exact nD (hJ16 (v382) _ ⟨hHeld, (kr HO383), (kb BK351), (kb BK352), (kb BK353), (be HB)⟩)
                                        rintro v382 w34 ⟨hS_, h0_, h1_, h2_, h3_, h4_⟩
                                        have HO383 : Aside0 (Kd.R k48 48 w34 w.heap.size (fun _ => True) v382 y381) := ⟨h0_⟩
                                        replace BK351 : Aside0 (w34.heap[gl]? = some (.cells #[.slice (some ad360) l4_0.length c4_0] 34 (0, 0))) := ⟨h1_⟩
                                        replace BK352 : Aside0 (w34.heap[gy]? = some (.cells (csBay a5_0 a5_1 a5_2) 32 (0, 0))) := ⟨h2_⟩
                                        replace BK353 : Aside0 (w34.heap[gs]? = some (.cells #[fvS gb gl gy gs] 54 (0, 0))) := ⟨h3_⟩
                                        replace HB : Aside0 (Below w.heap.size w w34) := ⟨h4_⟩
                                        clear h0_ h1_ h2_ h3_ h4_
                                        have hHeld : Hd gb gl gy gs ad360 l4_0 c4_0 x10_2 w34 := hS_
                                        refine nQ ?_
                                        refine three_ (i := 3) (j := 7) (k := 9) (Ni := some 36) (Nj := some 40) (Nk := some 42) #[true, true, true, true, true, false, true, false, false, false, true, false, true, true, true, true, true, false, false] #[true, true, true, false, true, false, true, true, false, false, true, false, true, true, true, true, true, false, false] #[true, true, true, false, true, false, true, false, false, true, true, false, true, true, true, true, true, false, false] rfl rfl rfl rfl rfl rfl (three_of HT_.out (by kernel_rfl)) (by decide) (by decide) (by decide) (fun K hK => ?_) (fun K hK => ?_) (fun K hK => ?_)
                                        ·skip
                                         refine Kd.R_lit_step (Kd.int .i64) _ 2 ?hg (N := 36) ?hd (xs := ([] : List Int)) (inner := []) (ok := fun _ => True) (okp := fun _ => True) ?hr ?hp (fun _ hk => hk) trivial (Below.refl _ _) (Nat.le_refl _) (by simp) ?_; (case hd => rfl); (case hg => rfl); (case hr => first | (go_simp; done) | (go_simp; rfl)); (case hp => exact (Reps.none _ _))
                                         intro v363 w35 ho36 hb hg_ hnew_
                                         clear hg_ hnew_
                                         (first | rw [← Ny362.out] at ho36 | (simp only [Int.reduceToNat] at ho36; rw [← Ny362.out] at ho36))
                                         replace HO383 := am (Kd.R_below (kr HO383) hb)
                                         have HO364 := am (Kd.R_lower ho36 (below_size (be HB)))
                                         replace BK351 := bB BK351 hb
                                         replace BK352 := bB BK352 hb
                                         replace BK353 := bB BK353 hb
                                         replace HB := am (below_step (be HB) hb)
                                         clear hb ho36
                                         refine hK.out _ _ ⟨cA BK353 0, cA BK351 0, cB HB hw380_0, cB HB hw380_1, cB HB hw380_2, cB HB hw380_3, cB HB hw380_4, cB HB hw380_5⟩ (fun hHeld => ?_)
                                         clear hK K
                                         refine nP ?_
                                         exact nD (hJ3_16 (v363, v382) _ ⟨hHeld, (kr HO364), (kr HO383), (kb BK351), (kb BK352), (kb BK353), (be HB)⟩)
                                        ·skip
                                         refine Kd.R_lit_step (Kd.int .i64) _ 2 ?hg (N := 40) ?hd (xs := ([x10_2] : List Int)) (inner := [.int .i64 x10_2]) (ok := fun _ => True) (okp := fun _ => True) ?hr ?hp (fun _ hk => hk) trivial (Below.refl _ _) (Nat.le_refl _) (by simp) ?_; (case hd => rfl); (case hg => rfl); (case hr => first | (go_simp; done) | (go_simp; rfl)); (case hp => exact (Reps.one (show Kd.M (Kd.int .i64) _ _ _ x10_2 [.int .i64 x10_2] from rfl) (Reps.none _ _)))
                                         intro v369 w35 ho36 hb hg_ hnew_
                                         clear hg_ hnew_
                                         (first | rw [← Ny368.out] at ho36 | (simp only [Int.reduceToNat] at ho36; rw [← Ny368.out] at ho36))
                                         replace HO383 := am (Kd.R_below (kr HO383) hb)
                                         have HO370 := am (Kd.R_lower ho36 (below_size (be HB)))
                                         replace BK351 := bB BK351 hb
                                         replace BK352 := bB BK352 hb
                                         replace BK353 := bB BK353 hb
                                         replace HB := am (below_step (be HB) hb)
                                         clear hb ho36
                                         refine hK.out _ _ ⟨cA BK353 0, cA BK351 0, cB HB hw380_0, cB HB hw380_1, cB HB hw380_2, cB HB hw380_3, cB HB hw380_4, cB HB hw380_5⟩ (fun hHeld => ?_)
                                         clear hK K
                                         refine nP ?_
                                         exact nD (hJ7_16 (v369, v382) _ ⟨hHeld, (kr HO370), (kr HO383), (kb BK351), (kb BK352), (kb BK353), (be HB)⟩)
                                        refine Kd.R_lit_step k48 _ 48 ?hg (N := 42) ?hd (xs := ([] : List (S48))) (inner := []) (ok := fun _ => True) (okp := fun _ => True) ?hr ?hp (fun _ hk => hk) trivial (Below.refl _ _) (Nat.le_refl _) (by simp) ?_; (case hd => rfl); (case hg => rfl); (case hr => first | (go_simp; done) | (go_simp; rfl)); (case hp => exact (Reps.none _ _))
                                        intro v375 w35 ho36 hb hg_ hnew_
                                        clear hg_ hnew_
                                        (first | rw [← Ny374.out] at ho36 | (simp only [Int.reduceToNat] at ho36; rw [← Ny374.out] at ho36))
                                        have HO376 := am (Kd.R_lower (Kd.R_new' ho36 (Kd.R_lt (kr HO383))) (below_size (be HB)))
                                        replace HO383 := am (Kd.R_elder' (kr HO383) (Kd.R_base ho36) hb)
                                        replace BK351 := bB BK351 hb
                                        replace BK352 := bB BK352 hb
                                        replace BK353 := bB BK353 hb
                                        replace HB := am (below_step (be HB) hb)
                                        clear hb ho36
                                        refine hK.out _ _ ⟨cA BK353 0, cA BK351 0, cB HB hw380_0, cB HB hw380_1, cB HB hw380_2, cB HB hw380_3, cB HB hw380_4, cB HB hw380_5⟩ (fun hHeld => ?_)
                                        clear hK K
                                        refine nP ?_
                                        exact nD (hJ9_16 (v375, v382) _ ⟨hHeld, (by (with_reducible repeat (first | apply Kd.R_alloc | apply Kd.R_drewN | apply Kd.R_drew)); exact Kd.R_mono HO376.out (fun _ hk => hk.2)), (by (with_reducible repeat (first | apply Kd.R_alloc | apply Kd.R_drewN | apply Kd.R_drew)); exact Kd.R_mono HO383.out (fun _ hk => hk.2)), (kb BK351), (kb BK352), (kb BK353), (be HB)⟩)
                                       rintro v375 w34 ⟨hS_, h0_, h1_, h2_, h3_, h4_⟩
                                       have HO376 : Aside0 (Kd.R k48 48 w34 w.heap.size (fun _ => True) v375 y374) := ⟨h0_⟩
                                       replace BK351 : Aside0 (w34.heap[gl]? = some (.cells #[.slice (some ad360) l4_0.length c4_0] 34 (0, 0))) := ⟨h1_⟩
                                       replace BK352 : Aside0 (w34.heap[gy]? = some (.cells (csBay a5_0 a5_1 a5_2) 32 (0, 0))) := ⟨h2_⟩
                                       replace BK353 : Aside0 (w34.heap[gs]? = some (.cells #[fvS gb gl gy gs] 54 (0, 0))) := ⟨h3_⟩
                                       replace HB : Aside0 (Below w.heap.size w w34) := ⟨h4_⟩
                                       clear h0_ h1_ h2_ h3_ h4_
                                       have hHeld : Hd gb gl gy gs ad360 l4_0 c4_0 x10_2 w34 := hS_
                                       refine nQ ?_
                                       refine three_ (i := 3) (j := 7) (k := 16) (Ni := some 36) (Nj := some 40) (Nk := some 49) #[true, true, true, true, true, false, true, false, false, true, true, false, true, true, true, true, false, false, false] #[true, true, true, false, true, false, true, true, false, true, true, false, true, true, true, true, false, false, false] #[true, true, true, false, true, false, true, false, false, true, true, false, true, true, true, true, true, false, false] rfl rfl rfl rfl rfl rfl (three_of HT_.out (by kernel_rfl)) (by decide) (by decide) (by decide) (fun K hK => ?_) (fun K hK => ?_) (fun K hK => ?_)
                                       ·skip
                                        refine Kd.R_lit_step (Kd.int .i64) _ 2 ?hg (N := 36) ?hd (xs := ([] : List Int)) (inner := []) (ok := fun _ => True) (okp := fun _ => True) ?hr ?hp (fun _ hk => hk) trivial (Below.refl _ _) (Nat.le_refl _) (by simp) ?_; (case hd => rfl); (case hg => rfl); (case hr => first | (go_simp; done) | (go_simp; rfl)); (case hp => exact (Reps.none _ _))
                                        intro v363 w35 ho36 hb hg_ hnew_
                                        clear hg_ hnew_
                                        (first | rw [← Ny362.out] at ho36 | (simp only [Int.reduceToNat] at ho36; rw [← Ny362.out] at ho36))
                                        replace HO376 := am (Kd.R_below (kr HO376) hb)
                                        have HO364 := am (Kd.R_lower ho36 (below_size (be HB)))
                                        replace BK351 := bB BK351 hb
                                        replace BK352 := bB BK352 hb
                                        replace BK353 := bB BK353 hb
                                        replace HB := am (below_step (be HB) hb)
                                        clear hb ho36
                                        refine hK.out _ _ ⟨cA BK353 0, cA BK351 0, cB HB hw380_0, cB HB hw380_1, cB HB hw380_2, cB HB hw380_3, cB HB hw380_4, cB HB hw380_5⟩ (fun hHeld => ?_)
                                        clear hK K
                                        refine nP ?_
                                        exact nD (hJ3_9 (v363, v375) _ ⟨hHeld, (kr HO364), (kr HO376), (kb BK351), (kb BK352), (kb BK353), (be HB)⟩)
                                       ·skip
                                        refine Kd.R_lit_step (Kd.int .i64) _ 2 ?hg (N := 40) ?hd (xs := ([x10_2] : List Int)) (inner := [.int .i64 x10_2]) (ok := fun _ => True) (okp := fun _ => True) ?hr ?hp (fun _ hk => hk) trivial (Below.refl _ _) (Nat.le_refl _) (by simp) ?_; (case hd => rfl); (case hg => rfl); (case hr => first | (go_simp; done) | (go_simp; rfl)); (case hp => exact (Reps.one (show Kd.M (Kd.int .i64) _ _ _ x10_2 [.int .i64 x10_2] from rfl) (Reps.none _ _)))
                                        intro v369 w35 ho36 hb hg_ hnew_
                                        clear hg_ hnew_
                                        (first | rw [← Ny368.out] at ho36 | (simp only [Int.reduceToNat] at ho36; rw [← Ny368.out] at ho36))
                                        replace HO376 := am (Kd.R_below (kr HO376) hb)
                                        have HO370 := am (Kd.R_lower ho36 (below_size (be HB)))
                                        replace BK351 := bB BK351 hb
                                        replace BK352 := bB BK352 hb
                                        replace BK353 := bB BK353 hb
                                        replace HB := am (below_step (be HB) hb)
                                        clear hb ho36
                                        refine hK.out _ _ ⟨cA BK353 0, cA BK351 0, cB HB hw380_0, cB HB hw380_1, cB HB hw380_2, cB HB hw380_3, cB HB hw380_4, cB HB hw380_5⟩ (fun hHeld => ?_)
                                        clear hK K
                                        refine nP ?_
                                        exact nD (hJ7_9 (v369, v375) _ ⟨hHeld, (kr HO370), (kr HO376), (kb BK351), (kb BK352), (kb BK353), (be HB)⟩)
                                       refine Kd.R_lit_step k48 _ 48 ?hg (N := 49) ?hd (xs := ([(⟨(⟨(rd_T48 l4_0 x10_2).f0.f0, (rd_T48 l4_0 x10_2).f0.f1⟩ : S46), (rd_T48 l4_0 x10_2).f1, (rd_T48 l4_0 x10_2).f2, (rd_T48 l4_0 x10_2).f3, (rd_T48 l4_0 x10_2).f4⟩ : S48)] : List (S48))) (inner := [.int .i8 ((rd_T48 l4_0 x10_2).f0.f0), .int .i8 ((rd_T48 l4_0 x10_2).f0.f1), .int .i8 ((rd_T48 l4_0 x10_2).f1), .int .i8 ((rd_T48 l4_0 x10_2).f2), .int .i8 ((rd_T48 l4_0 x10_2).f3), .int .i8 ((rd_T48 l4_0 x10_2).f4)]) (ok := fun _ => True) (okp := fun _ => True) ?hr ?hp (fun _ hk => hk) trivial (Below.refl _ _) (Nat.le_refl _) (by simp) ?_; (case hd => rfl); (case hg => rfl); (case hr => first | (go_simp; done) | (go_simp; rfl)); (case hp => exact (Reps.c6 (show Kd.M k48 _ _ _ (⟨(⟨(rd_T48 l4_0 x10_2).f0.f0, (rd_T48 l4_0 x10_2).f0.f1⟩ : S46), (rd_T48 l4_0 x10_2).f1, (rd_T48 l4_0 x10_2).f2, (rd_T48 l4_0 x10_2).f3, (rd_T48 l4_0 x10_2).f4⟩ : S48) [.int .i8 ((rd_T48 l4_0 x10_2).f0.f0), .int .i8 ((rd_T48 l4_0 x10_2).f0.f1), .int .i8 ((rd_T48 l4_0 x10_2).f1), .int .i8 ((rd_T48 l4_0 x10_2).f2), .int .i8 ((rd_T48 l4_0 x10_2).f3), .int .i8 ((rd_T48 l4_0 x10_2).f4)] from (k48_mkM _ _ _ (⟨(⟨(rd_T48 l4_0 x10_2).f0.f0, (rd_T48 l4_0 x10_2).f0.f1⟩ : S46), (rd_T48 l4_0 x10_2).f1, (rd_T48 l4_0 x10_2).f2, (rd_T48 l4_0 x10_2).f3, (rd_T48 l4_0 x10_2).f4⟩ : S48) )) (Reps.none _ _)))
                                       intro v382 w35 ho36 hb hg_ hnew_
                                       clear hg_ hnew_
                                       (first | rw [← Ny381.out] at ho36 | (simp only [Int.reduceToNat] at ho36; rw [← Ny381.out] at ho36))
                                       have HO383 := am (Kd.R_lower (Kd.R_new' ho36 (Kd.R_lt (kr HO376))) (below_size (be HB)))
                                       replace HO376 := am (Kd.R_elder' (kr HO376) (Kd.R_base ho36) hb)
                                       replace BK351 := bB BK351 hb
                                       replace BK352 := bB BK352 hb
                                       replace BK353 := bB BK353 hb
                                       replace HB := am (below_step (be HB) hb)
                                       clear hb ho36
                                       refine hK.out _ _ ⟨cA BK353 0, cA BK351 0, cB HB hw380_0, cB HB hw380_1, cB HB hw380_2, cB HB hw380_3, cB HB hw380_4, cB HB hw380_5⟩ (fun hHeld => ?_)
                                       clear hK K
                                       refine nP ?_
                                       exact nD (hJ9_16 (v375, v382) _ ⟨hHeld, (by (with_reducible repeat (first | apply Kd.R_alloc | apply Kd.R_drewN | apply Kd.R_drew)); exact Kd.R_mono HO376.out (fun _ hk => hk.2)), (by (with_reducible repeat (first | apply Kd.R_alloc | apply Kd.R_drewN | apply Kd.R_drew)); exact Kd.R_mono HO383.out (fun _ hk => hk.2)), (kb BK351), (kb BK352), (kb BK353), (be HB)⟩)
                                      rintro v369 w34 ⟨hS_, h0_, h1_, h2_, h3_, h4_⟩
                                      have HO370 : Aside0 (Kd.R (Kd.int .i64) 2 w34 w.heap.size (fun _ => True) v369 y368) := ⟨h0_⟩
                                      replace BK351 : Aside0 (w34.heap[gl]? = some (.cells #[.slice (some ad360) l4_0.length c4_0] 34 (0, 0))) := ⟨h1_⟩
                                      replace BK352 : Aside0 (w34.heap[gy]? = some (.cells (csBay a5_0 a5_1 a5_2) 32 (0, 0))) := ⟨h2_⟩
                                      replace BK353 : Aside0 (w34.heap[gs]? = some (.cells #[fvS gb gl gy gs] 54 (0, 0))) := ⟨h3_⟩
                                      replace HB : Aside0 (Below w.heap.size w w34) := ⟨h4_⟩
                                      clear h0_ h1_ h2_ h3_ h4_
                                      have hHeld : Hd gb gl gy gs ad360 l4_0 c4_0 x10_2 w34 := hS_
                                      refine nQ ?_
                                      refine three_ (i := 3) (j := 9) (k := 16) (Ni := some 36) (Nj := some 42) (Nk := some 49) #[true, true, true, true, true, false, true, true, false, false, true, false, true, true, true, true, false, false, false] #[true, true, true, false, true, false, true, true, false, true, true, false, true, true, true, true, false, false, false] #[true, true, true, false, true, false, true, true, false, false, true, false, true, true, true, true, true, false, false] rfl rfl rfl rfl rfl rfl (three_of HT_.out (by kernel_rfl)) (by decide) (by decide) (by decide) (fun K hK => ?_) (fun K hK => ?_) (fun K hK => ?_)
                                      ·skip
                                       refine Kd.R_lit_step (Kd.int .i64) _ 2 ?hg (N := 36) ?hd (xs := ([] : List Int)) (inner := []) (ok := fun _ => True) (okp := fun _ => True) ?hr ?hp (fun _ hk => hk) trivial (Below.refl _ _) (Nat.le_refl _) (by simp) ?_; (case hd => rfl); (case hg => rfl); (case hr => first | (go_simp; done) | (go_simp; rfl)); (case hp => exact (Reps.none _ _))
                                       intro v363 w35 ho36 hb hg_ hnew_
                                       clear hg_ hnew_
                                       (first | rw [← Ny362.out] at ho36 | (simp only [Int.reduceToNat] at ho36; rw [← Ny362.out] at ho36))
                                       have HO364 := am (Kd.R_lower (Kd.R_new' ho36 (Kd.R_lt (kr HO370))) (below_size (be HB)))
                                       replace HO370 := am (Kd.R_elder' (kr HO370) (Kd.R_base ho36) hb)
                                       replace BK351 := bB BK351 hb
                                       replace BK352 := bB BK352 hb
                                       replace BK353 := bB BK353 hb
                                       replace HB := am (below_step (be HB) hb)
                                       clear hb ho36
                                       refine hK.out _ _ ⟨cA BK353 0, cA BK351 0, cB HB hw380_0, cB HB hw380_1, cB HB hw380_2, cB HB hw380_3, cB HB hw380_4, cB HB hw380_5⟩ (fun hHeld => ?_)
                                       clear hK K
                                       refine nP ?_
                                       exact nD (hJ3_7 (v363, v369) _ ⟨hHeld, (by (with_reducible repeat (first | apply Kd.R_alloc | apply Kd.R_drewN | apply Kd.R_drew)); exact Kd.R_mono HO364.out (fun _ hk => hk.2)), (by (with_reducible repeat (first | apply Kd.R_alloc | apply Kd.R_drewN | apply Kd.R_drew)); exact Kd.R_mono HO370.out (fun _ hk => hk.2)), (kb BK351), (kb BK352), (kb BK353), (be HB)⟩)
                                      ·skip
                                       refine Kd.R_lit_step k48 _ 48 ?hg (N := 42) ?hd (xs := ([] : List (S48))) (inner := []) (ok := fun _ => True) (okp := fun _ => True) ?hr ?hp (fun _ hk => hk) trivial (Below.refl _ _) (Nat.le_refl _) (by simp) ?_; (case hd => rfl); (case hg => rfl); (case hr => first | (go_simp; done) | (go_simp; rfl)); (case hp => exact (Reps.none _ _))
                                       intro v375 w35 ho36 hb hg_ hnew_
                                       clear hg_ hnew_
                                       (first | rw [← Ny374.out] at ho36 | (simp only [Int.reduceToNat] at ho36; rw [← Ny374.out] at ho36))
                                       replace HO370 := am (Kd.R_below (kr HO370) hb)
                                       have HO376 := am (Kd.R_lower ho36 (below_size (be HB)))
                                       replace BK351 := bB BK351 hb
                                       replace BK352 := bB BK352 hb
                                       replace BK353 := bB BK353 hb
                                       replace HB := am (below_step (be HB) hb)
                                       clear hb ho36
                                       refine hK.out _ _ ⟨cA BK353 0, cA BK351 0, cB HB hw380_0, cB HB hw380_1, cB HB hw380_2, cB HB hw380_3, cB HB hw380_4, cB HB hw380_5⟩ (fun hHeld => ?_)
                                       clear hK K
                                       refine nP ?_
                                       exact nD (hJ7_9 (v369, v375) _ ⟨hHeld, (kr HO370), (kr HO376), (kb BK351), (kb BK352), (kb BK353), (be HB)⟩)
                                      refine Kd.R_lit_step k48 _ 48 ?hg (N := 49) ?hd (xs := ([(⟨(⟨(rd_T48 l4_0 x10_2).f0.f0, (rd_T48 l4_0 x10_2).f0.f1⟩ : S46), (rd_T48 l4_0 x10_2).f1, (rd_T48 l4_0 x10_2).f2, (rd_T48 l4_0 x10_2).f3, (rd_T48 l4_0 x10_2).f4⟩ : S48)] : List (S48))) (inner := [.int .i8 ((rd_T48 l4_0 x10_2).f0.f0), .int .i8 ((rd_T48 l4_0 x10_2).f0.f1), .int .i8 ((rd_T48 l4_0 x10_2).f1), .int .i8 ((rd_T48 l4_0 x10_2).f2), .int .i8 ((rd_T48 l4_0 x10_2).f3), .int .i8 ((rd_T48 l4_0 x10_2).f4)]) (ok := fun _ => True) (okp := fun _ => True) ?hr ?hp (fun _ hk => hk) trivial (Below.refl _ _) (Nat.le_refl _) (by simp) ?_; (case hd => rfl); (case hg => rfl); (case hr => first | (go_simp; done) | (go_simp; rfl)); (case hp => exact (Reps.c6 (show Kd.M k48 _ _ _ (⟨(⟨(rd_T48 l4_0 x10_2).f0.f0, (rd_T48 l4_0 x10_2).f0.f1⟩ : S46), (rd_T48 l4_0 x10_2).f1, (rd_T48 l4_0 x10_2).f2, (rd_T48 l4_0 x10_2).f3, (rd_T48 l4_0 x10_2).f4⟩ : S48) [.int .i8 ((rd_T48 l4_0 x10_2).f0.f0), .int .i8 ((rd_T48 l4_0 x10_2).f0.f1), .int .i8 ((rd_T48 l4_0 x10_2).f1), .int .i8 ((rd_T48 l4_0 x10_2).f2), .int .i8 ((rd_T48 l4_0 x10_2).f3), .int .i8 ((rd_T48 l4_0 x10_2).f4)] from (k48_mkM _ _ _ (⟨(⟨(rd_T48 l4_0 x10_2).f0.f0, (rd_T48 l4_0 x10_2).f0.f1⟩ : S46), (rd_T48 l4_0 x10_2).f1, (rd_T48 l4_0 x10_2).f2, (rd_T48 l4_0 x10_2).f3, (rd_T48 l4_0 x10_2).f4⟩ : S48) )) (Reps.none _ _)))
                                      intro v382 w35 ho36 hb hg_ hnew_
                                      clear hg_ hnew_
                                      (first | rw [← Ny381.out] at ho36 | (simp only [Int.reduceToNat] at ho36; rw [← Ny381.out] at ho36))
                                      replace HO370 := am (Kd.R_below (kr HO370) hb)
                                      have HO383 := am (Kd.R_lower ho36 (below_size (be HB)))
                                      replace BK351 := bB BK351 hb
                                      replace BK352 := bB BK352 hb
                                      replace BK353 := bB BK353 hb
                                      replace HB := am (below_step (be HB) hb)
                                      clear hb ho36
                                      refine hK.out _ _ ⟨cA BK353 0, cA BK351 0, cB HB hw380_0, cB HB hw380_1, cB HB hw380_2, cB HB hw380_3, cB HB hw380_4, cB HB hw380_5⟩ (fun hHeld => ?_)
                                      clear hK K
                                      refine nP ?_
                                      exact nD (hJ7_16 (v369, v382) _ ⟨hHeld, (kr HO370), (kr HO383), (kb BK351), (kb BK352), (kb BK353), (be HB)⟩)
                                     rintro v363 w34 ⟨hS_, h0_, h1_, h2_, h3_, h4_⟩
                                     have HO364 : Aside0 (Kd.R (Kd.int .i64) 2 w34 w.heap.size (fun _ => True) v363 y362) := ⟨h0_⟩
                                     replace BK351 : Aside0 (w34.heap[gl]? = some (.cells #[.slice (some ad360) l4_0.length c4_0] 34 (0, 0))) := ⟨h1_⟩
                                     replace BK352 : Aside0 (w34.heap[gy]? = some (.cells (csBay a5_0 a5_1 a5_2) 32 (0, 0))) := ⟨h2_⟩
                                     replace BK353 : Aside0 (w34.heap[gs]? = some (.cells #[fvS gb gl gy gs] 54 (0, 0))) := ⟨h3_⟩
                                     replace HB : Aside0 (Below w.heap.size w w34) := ⟨h4_⟩
                                     clear h0_ h1_ h2_ h3_ h4_
                                     have hHeld : Hd gb gl gy gs ad360 l4_0 c4_0 x10_2 w34 := hS_
                                     refine nQ ?_
                                     refine four_ (i := 5) (j := 7) (k := 9) (m := 16) (Ni := some 38) (Nj := some 40) (Nk := some 42) (Nm := some 49) #[true, true, true, true, true, true, true, false, false, false, true, false, true, true, true, true, false, false, false] #[true, true, true, true, true, false, true, true, false, false, true, false, true, true, true, true, false, false, false] #[true, true, true, true, true, false, true, false, false, true, true, false, true, true, true, true, false, false, false] #[true, true, true, true, true, false, true, false, false, false, true, false, true, true, true, true, true, false, false] rfl rfl rfl rfl rfl rfl rfl rfl (four_of HT_.out (by kernel_rfl)) (by decide) (by decide) (by decide) (by decide) (fun K hK => ?_) (fun K hK => ?_) (fun K hK => ?_) (fun K hK => ?_)
                                     ·skip
                                      refine Kd.R_append_rows_step (Kd.int .i64) (w0 := w) w.heap.size (by rfl) (.tmp 36) (.tmp 37) 29 2 (.int .i64 0) 8 rfl Try.underlying29 info2 rfl (by decide) (by omega) v363 y362 l1 _ _ _ (fun _ => True) (fun _ => False) rfl rfl ?aO ?aR (fun _ _ h => h) (fun _ h => h.elim) ?aF ?aB ?aS ?aL ?_
                                      (case aR => repeat (first | exact (Kd.C_below HR1.out HB.out) | (with_reducible refine Kd.C_alloc ?_ _) | (with_reducible refine Kd.C_drewN ?_ _) | (with_reducible refine Kd.C_drew ?_)))
                                      (case aB => exact (be HB))
                                      (case aF => exact (fun _ _ => trivial))
                                      (case aO => exact (kr HO364))
                                      (case aS => exact (below_size (be HB)))
                                      (case aL => have := LMc21.out; omega)
                                      intro v366 w35 ho hb hg hat
                                      rw [← Ny365.out] at ho
                                      replace BK351 := am (blk_grown (g := gl) (o := .cells #[.slice (some ad360) l4_0.length c4_0] 34 (0, 0)) (kb BK351) hg (Kd.R_ne HO364.out BK351.out (by decide)))
                                      replace BK352 := am (blk_grown (g := gy) (o := .cells (csBay a5_0 a5_1 a5_2) 32 (0, 0)) (kb BK352) hg (Kd.R_ne HO364.out BK352.out (by decide)))
                                      replace BK353 := am (blk_grown (g := gs) (o := .cells #[fvS gb gl gy gs] 54 (0, 0)) (kb BK353) hg (Kd.R_ne HO364.out BK353.out (by decide)))
                                      replace HB := am (hb)
                                      have HO367 := am (ho)
                                      clear HO364
                                      clear ho hb hg hat
                                      refine hK.out _ _ ⟨cA BK353 0, cA BK351 0, cB HB hw380_0, cB HB hw380_1, cB HB hw380_2, cB HB hw380_3, cB HB hw380_4, cB HB hw380_5⟩ (fun hHeld => ?_)
                                      clear hK K
                                      refine nP ?_
                                      exact nD (hJ3_5 (v363, v366) _ ⟨hHeld, (kr HO367), (kb BK351), (kb BK352), (kb BK353), (be HB)⟩)
                                     ·skip
                                      refine Kd.R_lit_step (Kd.int .i64) _ 2 ?hg (N := 40) ?hd (xs := ([x10_2] : List Int)) (inner := [.int .i64 x10_2]) (ok := fun _ => True) (okp := fun _ => True) ?hr ?hp (fun _ hk => hk) trivial (Below.refl _ _) (Nat.le_refl _) (by simp) ?_; (case hd => rfl); (case hg => rfl); (case hr => first | (go_simp; done) | (go_simp; rfl)); (case hp => exact (Reps.one (show Kd.M (Kd.int .i64) _ _ _ x10_2 [.int .i64 x10_2] from rfl) (Reps.none _ _)))
                                      intro v369 w35 ho36 hb hg_ hnew_
                                      clear hg_ hnew_
                                      (first | rw [← Ny368.out] at ho36 | (simp only [Int.reduceToNat] at ho36; rw [← Ny368.out] at ho36))
                                      have HO370 := am (Kd.R_lower (Kd.R_new' ho36 (Kd.R_lt (kr HO364))) (below_size (be HB)))
                                      replace HO364 := am (Kd.R_elder' (kr HO364) (Kd.R_base ho36) hb)
                                      replace BK351 := bB BK351 hb
                                      replace BK352 := bB BK352 hb
                                      replace BK353 := bB BK353 hb
                                      replace HB := am (below_step (be HB) hb)
                                      clear hb ho36
                                      refine hK.out _ _ ⟨cA BK353 0, cA BK351 0, cB HB hw380_0, cB HB hw380_1, cB HB hw380_2, cB HB hw380_3, cB HB hw380_4, cB HB hw380_5⟩ (fun hHeld => ?_)
                                      clear hK K
                                      refine nP ?_
                                      exact nD (hJ3_7 (v363, v369) _ ⟨hHeld, (by (with_reducible repeat (first | apply Kd.R_alloc | apply Kd.R_drewN | apply Kd.R_drew)); exact Kd.R_mono HO364.out (fun _ hk => hk.2)), (by (with_reducible repeat (first | apply Kd.R_alloc | apply Kd.R_drewN | apply Kd.R_drew)); exact Kd.R_mono HO370.out (fun _ hk => hk.2)), (kb BK351), (kb BK352), (kb BK353), (be HB)⟩)
                                     ·skip
                                      refine Kd.R_lit_step k48 _ 48 ?hg (N := 42) ?hd (xs := ([] : List (S48))) (inner := []) (ok := fun _ => True) (okp := fun _ => True) ?hr ?hp (fun _ hk => hk) trivial (Below.refl _ _) (Nat.le_refl _) (by simp) ?_; (case hd => rfl); (case hg => rfl); (case hr => first | (go_simp; done) | (go_simp; rfl)); (case hp => exact (Reps.none _ _))
                                      intro v375 w35 ho36 hb hg_ hnew_
                                      clear hg_ hnew_
                                      (first | rw [← Ny374.out] at ho36 | (simp only [Int.reduceToNat] at ho36; rw [← Ny374.out] at ho36))
                                      replace HO364 := am (Kd.R_below (kr HO364) hb)
                                      have HO376 := am (Kd.R_lower ho36 (below_size (be HB)))
                                      replace BK351 := bB BK351 hb
                                      replace BK352 := bB BK352 hb
                                      replace BK353 := bB BK353 hb
                                      replace HB := am (below_step (be HB) hb)
                                      clear hb ho36
                                      refine hK.out _ _ ⟨cA BK353 0, cA BK351 0, cB HB hw380_0, cB HB hw380_1, cB HB hw380_2, cB HB hw380_3, cB HB hw380_4, cB HB hw380_5⟩ (fun hHeld => ?_)
                                      clear hK K
                                      refine nP ?_
                                      exact nD (hJ3_9 (v363, v375) _ ⟨hHeld, (kr HO364), (kr HO376), (kb BK351), (kb BK352), (kb BK353), (be HB)⟩)
                                     refine Kd.R_lit_step k48 _ 48 ?hg (N := 49) ?hd (xs := ([(⟨(⟨(rd_T48 l4_0 x10_2).f0.f0, (rd_T48 l4_0 x10_2).f0.f1⟩ : S46), (rd_T48 l4_0 x10_2).f1, (rd_T48 l4_0 x10_2).f2, (rd_T48 l4_0 x10_2).f3, (rd_T48 l4_0 x10_2).f4⟩ : S48)] : List (S48))) (inner := [.int .i8 ((rd_T48 l4_0 x10_2).f0.f0), .int .i8 ((rd_T48 l4_0 x10_2).f0.f1), .int .i8 ((rd_T48 l4_0 x10_2).f1), .int .i8 ((rd_T48 l4_0 x10_2).f2), .int .i8 ((rd_T48 l4_0 x10_2).f3), .int .i8 ((rd_T48 l4_0 x10_2).f4)]) (ok := fun _ => True) (okp := fun _ => True) ?hr ?hp (fun _ hk => hk) trivial (Below.refl _ _) (Nat.le_refl _) (by simp) ?_; (case hd => rfl); (case hg => rfl); (case hr => first | (go_simp; done) | (go_simp; rfl)); (case hp => exact (Reps.c6 (show Kd.M k48 _ _ _ (⟨(⟨(rd_T48 l4_0 x10_2).f0.f0, (rd_T48 l4_0 x10_2).f0.f1⟩ : S46), (rd_T48 l4_0 x10_2).f1, (rd_T48 l4_0 x10_2).f2, (rd_T48 l4_0 x10_2).f3, (rd_T48 l4_0 x10_2).f4⟩ : S48) [.int .i8 ((rd_T48 l4_0 x10_2).f0.f0), .int .i8 ((rd_T48 l4_0 x10_2).f0.f1), .int .i8 ((rd_T48 l4_0 x10_2).f1), .int .i8 ((rd_T48 l4_0 x10_2).f2), .int .i8 ((rd_T48 l4_0 x10_2).f3), .int .i8 ((rd_T48 l4_0 x10_2).f4)] from (k48_mkM _ _ _ (⟨(⟨(rd_T48 l4_0 x10_2).f0.f0, (rd_T48 l4_0 x10_2).f0.f1⟩ : S46), (rd_T48 l4_0 x10_2).f1, (rd_T48 l4_0 x10_2).f2, (rd_T48 l4_0 x10_2).f3, (rd_T48 l4_0 x10_2).f4⟩ : S48) )) (Reps.none _ _)))
                                     intro v382 w35 ho36 hb hg_ hnew_
                                     clear hg_ hnew_
                                     (first | rw [← Ny381.out] at ho36 | (simp only [Int.reduceToNat] at ho36; rw [← Ny381.out] at ho36))
                                     replace HO364 := am (Kd.R_below (kr HO364) hb)
                                     have HO383 := am (Kd.R_lower ho36 (below_size (be HB)))
                                     replace BK351 := bB BK351 hb
                                     replace BK352 := bB BK352 hb
                                     replace BK353 := bB BK353 hb
                                     replace HB := am (below_step (be HB) hb)
                                     clear hb ho36
                                     refine hK.out _ _ ⟨cA BK353 0, cA BK351 0, cB HB hw380_0, cB HB hw380_1, cB HB hw380_2, cB HB hw380_3, cB HB hw380_4, cB HB hw380_5⟩ (fun hHeld => ?_)
                                     clear hK K
                                     refine nP ?_
                                     exact nD (hJ3_16 (v363, v382) _ ⟨hHeld, (kr HO364), (kr HO383), (kb BK351), (kb BK352), (kb BK353), (be HB)⟩)
                                    rintro ⟨v375, v382⟩ w36 ⟨hS_, h0_, h1_, h2_, h3_, h4_, h5_⟩
                                    have HO376 : Aside0 (Kd.R k48 48 w36 w.heap.size (fun k_ => some k_ ≠ (v382 : Value).ownBlock) v375 y374) := ⟨h0_⟩
                                    have HO383 : Aside0 (Kd.R k48 48 w36 w.heap.size (fun k_ => some k_ ≠ (v375 : Value).ownBlock) v382 y381) := ⟨h1_⟩
                                    replace BK351 : Aside0 (w36.heap[gl]? = some (.cells #[.slice (some ad360) l4_0.length c4_0] 34 (0, 0))) := ⟨h2_⟩
                                    replace BK352 : Aside0 (w36.heap[gy]? = some (.cells (csBay a5_0 a5_1 a5_2) 32 (0, 0))) := ⟨h3_⟩
                                    replace BK353 : Aside0 (w36.heap[gs]? = some (.cells #[fvS gb gl gy gs] 54 (0, 0))) := ⟨h4_⟩
                                    replace HB : Aside0 (Below w.heap.size w w36) := ⟨h5_⟩
                                    clear h0_ h1_ h2_ h3_ h4_ h5_
                                    have hHeld : Hd gb gl gy gs ad360 l4_0 c4_0 x10_2 w36 := hS_
                                    refine nQ ?_
                                    refine two_ (i := 3) (j := 7) (Ni := some 36) (Nj := some 40) #[true, true, true, true, true, false, true, false, false, true, true, false, true, true, true, true, true, false, false] #[true, true, true, false, true, false, true, true, false, true, true, false, true, true, true, true, true, false, false] rfl rfl rfl rfl (two_of HT_.out (by kernel_rfl)) (by decide) (by decide) (fun K hK => ?_) (fun K hK => ?_)
                                    ·skip
                                     refine Kd.R_lit_step (Kd.int .i64) _ 2 ?hg (N := 36) ?hd (xs := ([] : List Int)) (inner := []) (ok := fun _ => True) (okp := fun _ => True) ?hr ?hp (fun _ hk => hk) trivial (Below.refl _ _) (Nat.le_refl _) (by simp) ?_; (case hd => rfl); (case hg => rfl); (case hr => first | (go_simp; done) | (go_simp; rfl)); (case hp => exact (Reps.none _ _))
                                     intro v363 w37 ho38 hb hg_ hnew_
                                     clear hg_ hnew_
                                     (first | rw [← Ny362.out] at ho38 | (simp only [Int.reduceToNat] at ho38; rw [← Ny362.out] at ho38))
                                     replace HO376 := am (Kd.R_below (kr HO376) hb)
                                     replace HO383 := am (Kd.R_below (kr HO383) hb)
                                     have HO364 := am (Kd.R_lower ho38 (below_size (be HB)))
                                     replace BK351 := bB BK351 hb
                                     replace BK352 := bB BK352 hb
                                     replace BK353 := bB BK353 hb
                                     replace HB := am (below_step (be HB) hb)
                                     clear hb ho38
                                     refine hK.out _ _ ⟨cA BK353 0, cA BK351 0, cB HB hw380_0, cB HB hw380_1, cB HB hw380_2, cB HB hw380_3, cB HB hw380_4, cB HB hw380_5⟩ (fun hHeld => ?_)
                                     clear hK K
                                     refine nP ?_
                                     exact nD (hJ3_9_16 (v363, v375, v382) _ ⟨hHeld, (kr HO364), (kr HO376), (kr HO383), (kb BK351), (kb BK352), (kb BK353), (be HB)⟩)
                                    refine Kd.R_lit_step (Kd.int .i64) _ 2 ?hg (N := 40) ?hd (xs := ([x10_2] : List Int)) (inner := [.int .i64 x10_2]) (ok := fun _ => True) (okp := fun _ => True) ?hr ?hp (fun _ hk => hk) trivial (Below.refl _ _) (Nat.le_refl _) (by simp) ?_; (case hd => rfl); (case hg => rfl); (case hr => first | (go_simp; done) | (go_simp; rfl)); (case hp => exact (Reps.one (show Kd.M (Kd.int .i64) _ _ _ x10_2 [.int .i64 x10_2] from rfl) (Reps.none _ _)))
                                    intro v369 w37 ho38 hb hg_ hnew_
                                    clear hg_ hnew_
                                    (first | rw [← Ny368.out] at ho38 | (simp only [Int.reduceToNat] at ho38; rw [← Ny368.out] at ho38))
                                    replace HO376 := am (Kd.R_below (kr HO376) hb)
                                    replace HO383 := am (Kd.R_below (kr HO383) hb)
                                    have HO370 := am (Kd.R_lower ho38 (below_size (be HB)))
                                    replace BK351 := bB BK351 hb
                                    replace BK352 := bB BK352 hb
                                    replace BK353 := bB BK353 hb
                                    replace HB := am (below_step (be HB) hb)
                                    clear hb ho38
                                    refine hK.out _ _ ⟨cA BK353 0, cA BK351 0, cB HB hw380_0, cB HB hw380_1, cB HB hw380_2, cB HB hw380_3, cB HB hw380_4, cB HB hw380_5⟩ (fun hHeld => ?_)
                                    clear hK K
                                    refine nP ?_
                                    exact nD (hJ7_9_16 (v369, v375, v382) _ ⟨hHeld, (kr HO370), (kr HO376), (kr HO383), (kb BK351), (kb BK352), (kb BK353), (be HB)⟩)
                                   rintro ⟨v369, v382⟩ w36 ⟨hS_, h0_, h1_, h2_, h3_, h4_, h5_⟩
                                   have HO370 : Aside0 (Kd.R (Kd.int .i64) 2 w36 w.heap.size (fun _ => True) v369 y368) := ⟨h0_⟩
                                   have HO383 : Aside0 (Kd.R k48 48 w36 w.heap.size (fun _ => True) v382 y381) := ⟨h1_⟩
                                   replace BK351 : Aside0 (w36.heap[gl]? = some (.cells #[.slice (some ad360) l4_0.length c4_0] 34 (0, 0))) := ⟨h2_⟩
                                   replace BK352 : Aside0 (w36.heap[gy]? = some (.cells (csBay a5_0 a5_1 a5_2) 32 (0, 0))) := ⟨h3_⟩
                                   replace BK353 : Aside0 (w36.heap[gs]? = some (.cells #[fvS gb gl gy gs] 54 (0, 0))) := ⟨h4_⟩
                                   replace HB : Aside0 (Below w.heap.size w w36) := ⟨h5_⟩
                                   clear h0_ h1_ h2_ h3_ h4_ h5_
                                   have hHeld : Hd gb gl gy gs ad360 l4_0 c4_0 x10_2 w36 := hS_
                                   refine nQ ?_
                                   refine two_ (i := 3) (j := 9) (Ni := some 36) (Nj := some 42) #[true, true, true, true, true, false, true, true, false, false, true, false, true, true, true, true, true, false, false] #[true, true, true, false, true, false, true, true, false, true, true, false, true, true, true, true, true, false, false] rfl rfl rfl rfl (two_of HT_.out (by kernel_rfl)) (by decide) (by decide) (fun K hK => ?_) (fun K hK => ?_)
                                   ·skip
                                    refine Kd.R_lit_step (Kd.int .i64) _ 2 ?hg (N := 36) ?hd (xs := ([] : List Int)) (inner := []) (ok := fun _ => True) (okp := fun _ => True) ?hr ?hp (fun _ hk => hk) trivial (Below.refl _ _) (Nat.le_refl _) (by simp) ?_; (case hd => rfl); (case hg => rfl); (case hr => first | (go_simp; done) | (go_simp; rfl)); (case hp => exact (Reps.none _ _))
                                    intro v363 w37 ho38 hb hg_ hnew_
                                    clear hg_ hnew_
                                    (first | rw [← Ny362.out] at ho38 | (simp only [Int.reduceToNat] at ho38; rw [← Ny362.out] at ho38))
                                    replace HO383 := am (Kd.R_below (kr HO383) hb)
                                    have HO364 := am (Kd.R_lower (Kd.R_new' ho38 (Kd.R_lt (kr HO370))) (below_size (be HB)))
                                    replace HO370 := am (Kd.R_elder' (kr HO370) (Kd.R_base ho38) hb)
                                    replace BK351 := bB BK351 hb
                                    replace BK352 := bB BK352 hb
                                    replace BK353 := bB BK353 hb
                                    replace HB := am (below_step (be HB) hb)
                                    clear hb ho38
                                    refine hK.out _ _ ⟨cA BK353 0, cA BK351 0, cB HB hw380_0, cB HB hw380_1, cB HB hw380_2, cB HB hw380_3, cB HB hw380_4, cB HB hw380_5⟩ (fun hHeld => ?_)
                                    clear hK K
                                    refine nP ?_
                                    exact nD (hJ3_7_16 (v363, v369, v382) _ ⟨hHeld, (by (with_reducible repeat (first | apply Kd.R_alloc | apply Kd.R_drewN | apply Kd.R_drew)); exact Kd.R_mono HO364.out (fun _ hk => hk.2)), (by (with_reducible repeat (first | apply Kd.R_alloc | apply Kd.R_drewN | apply Kd.R_drew)); exact Kd.R_mono HO370.out (fun _ hk => hk.2)), (kr HO383), (kb BK351), (kb BK352), (kb BK353), (be HB)⟩)
                                   refine Kd.R_lit_step k48 _ 48 ?hg (N := 42) ?hd (xs := ([] : List (S48))) (inner := []) (ok := fun _ => True) (okp := fun _ => True) ?hr ?hp (fun _ hk => hk) trivial (Below.refl _ _) (Nat.le_refl _) (by simp) ?_; (case hd => rfl); (case hg => rfl); (case hr => first | (go_simp; done) | (go_simp; rfl)); (case hp => exact (Reps.none _ _))
                                   intro v375 w37 ho38 hb hg_ hnew_
                                   clear hg_ hnew_
                                   (first | rw [← Ny374.out] at ho38 | (simp only [Int.reduceToNat] at ho38; rw [← Ny374.out] at ho38))
                                   replace HO370 := am (Kd.R_below (kr HO370) hb)
                                   have HO376 := am (Kd.R_lower (Kd.R_new' ho38 (Kd.R_lt (kr HO383))) (below_size (be HB)))
                                   replace HO383 := am (Kd.R_elder' (kr HO383) (Kd.R_base ho38) hb)
                                   replace BK351 := bB BK351 hb
                                   replace BK352 := bB BK352 hb
                                   replace BK353 := bB BK353 hb
                                   replace HB := am (below_step (be HB) hb)
                                   clear hb ho38
                                   refine hK.out _ _ ⟨cA BK353 0, cA BK351 0, cB HB hw380_0, cB HB hw380_1, cB HB hw380_2, cB HB hw380_3, cB HB hw380_4, cB HB hw380_5⟩ (fun hHeld => ?_)
                                   clear hK K
                                   refine nP ?_
                                   exact nD (hJ7_9_16 (v369, v375, v382) _ ⟨hHeld, (kr HO370), (by (with_reducible repeat (first | apply Kd.R_alloc | apply Kd.R_drewN | apply Kd.R_drew)); exact Kd.R_mono HO376.out (fun _ hk => hk.2)), (by (with_reducible repeat (first | apply Kd.R_alloc | apply Kd.R_drewN | apply Kd.R_drew)); exact Kd.R_mono HO383.out (fun _ hk => hk.2)), (kb BK351), (kb BK352), (kb BK353), (be HB)⟩)
                                  rintro ⟨v369, v375⟩ w36 ⟨hS_, h0_, h1_, h2_, h3_, h4_, h5_⟩
                                  have HO370 : Aside0 (Kd.R (Kd.int .i64) 2 w36 w.heap.size (fun _ => True) v369 y368) := ⟨h0_⟩
                                  have HO376 : Aside0 (Kd.R k48 48 w36 w.heap.size (fun _ => True) v375 y374) := ⟨h1_⟩
                                  replace BK351 : Aside0 (w36.heap[gl]? = some (.cells #[.slice (some ad360) l4_0.length c4_0] 34 (0, 0))) := ⟨h2_⟩
                                  replace BK352 : Aside0 (w36.heap[gy]? = some (.cells (csBay a5_0 a5_1 a5_2) 32 (0, 0))) := ⟨h3_⟩
                                  replace BK353 : Aside0 (w36.heap[gs]? = some (.cells #[fvS gb gl gy gs] 54 (0, 0))) := ⟨h4_⟩
                                  replace HB : Aside0 (Below w.heap.size w w36) := ⟨h5_⟩
                                  clear h0_ h1_ h2_ h3_ h4_ h5_
                                  have hHeld : Hd gb gl gy gs ad360 l4_0 c4_0 x10_2 w36 := hS_
                                  refine nQ ?_
                                  refine two_ (i := 3) (j := 16) (Ni := some 36) (Nj := some 49) #[true, true, true, true, true, false, true, true, false, true, true, false, true, true, true, true, false, false, false] #[true, true, true, false, true, false, true, true, false, true, true, false, true, true, true, true, true, false, false] rfl rfl rfl rfl (two_of HT_.out (by kernel_rfl)) (by decide) (by decide) (fun K hK => ?_) (fun K hK => ?_)
                                  ·skip
                                   refine Kd.R_lit_step (Kd.int .i64) _ 2 ?hg (N := 36) ?hd (xs := ([] : List Int)) (inner := []) (ok := fun _ => True) (okp := fun _ => True) ?hr ?hp (fun _ hk => hk) trivial (Below.refl _ _) (Nat.le_refl _) (by simp) ?_; (case hd => rfl); (case hg => rfl); (case hr => first | (go_simp; done) | (go_simp; rfl)); (case hp => exact (Reps.none _ _))
                                   intro v363 w37 ho38 hb hg_ hnew_
                                   clear hg_ hnew_
                                   (first | rw [← Ny362.out] at ho38 | (simp only [Int.reduceToNat] at ho38; rw [← Ny362.out] at ho38))
                                   replace HO376 := am (Kd.R_below (kr HO376) hb)
                                   have HO364 := am (Kd.R_lower (Kd.R_new' ho38 (Kd.R_lt (kr HO370))) (below_size (be HB)))
                                   replace HO370 := am (Kd.R_elder' (kr HO370) (Kd.R_base ho38) hb)
                                   replace BK351 := bB BK351 hb
                                   replace BK352 := bB BK352 hb
                                   replace BK353 := bB BK353 hb
                                   replace HB := am (below_step (be HB) hb)
                                   clear hb ho38
                                   refine hK.out _ _ ⟨cA BK353 0, cA BK351 0, cB HB hw380_0, cB HB hw380_1, cB HB hw380_2, cB HB hw380_3, cB HB hw380_4, cB HB hw380_5⟩ (fun hHeld => ?_)
                                   clear hK K
                                   refine nP ?_
                                   exact nD (hJ3_7_9 (v363, v369, v375) _ ⟨hHeld, (by (with_reducible repeat (first | apply Kd.R_alloc | apply Kd.R_drewN | apply Kd.R_drew)); exact Kd.R_mono HO364.out (fun _ hk => hk.2)), (by (with_reducible repeat (first | apply Kd.R_alloc | apply Kd.R_drewN | apply Kd.R_drew)); exact Kd.R_mono HO370.out (fun _ hk => hk.2)), (kr HO376), (kb BK351), (kb BK352), (kb BK353), (be HB)⟩)
                                  refine Kd.R_lit_step k48 _ 48 ?hg (N := 49) ?hd (xs := ([(⟨(⟨(rd_T48 l4_0 x10_2).f0.f0, (rd_T48 l4_0 x10_2).f0.f1⟩ : S46), (rd_T48 l4_0 x10_2).f1, (rd_T48 l4_0 x10_2).f2, (rd_T48 l4_0 x10_2).f3, (rd_T48 l4_0 x10_2).f4⟩ : S48)] : List (S48))) (inner := [.int .i8 ((rd_T48 l4_0 x10_2).f0.f0), .int .i8 ((rd_T48 l4_0 x10_2).f0.f1), .int .i8 ((rd_T48 l4_0 x10_2).f1), .int .i8 ((rd_T48 l4_0 x10_2).f2), .int .i8 ((rd_T48 l4_0 x10_2).f3), .int .i8 ((rd_T48 l4_0 x10_2).f4)]) (ok := fun _ => True) (okp := fun _ => True) ?hr ?hp (fun _ hk => hk) trivial (Below.refl _ _) (Nat.le_refl _) (by simp) ?_; (case hd => rfl); (case hg => rfl); (case hr => first | (go_simp; done) | (go_simp; rfl)); (case hp => exact (Reps.c6 (show Kd.M k48 _ _ _ (⟨(⟨(rd_T48 l4_0 x10_2).f0.f0, (rd_T48 l4_0 x10_2).f0.f1⟩ : S46), (rd_T48 l4_0 x10_2).f1, (rd_T48 l4_0 x10_2).f2, (rd_T48 l4_0 x10_2).f3, (rd_T48 l4_0 x10_2).f4⟩ : S48) [.int .i8 ((rd_T48 l4_0 x10_2).f0.f0), .int .i8 ((rd_T48 l4_0 x10_2).f0.f1), .int .i8 ((rd_T48 l4_0 x10_2).f1), .int .i8 ((rd_T48 l4_0 x10_2).f2), .int .i8 ((rd_T48 l4_0 x10_2).f3), .int .i8 ((rd_T48 l4_0 x10_2).f4)] from (k48_mkM _ _ _ (⟨(⟨(rd_T48 l4_0 x10_2).f0.f0, (rd_T48 l4_0 x10_2).f0.f1⟩ : S46), (rd_T48 l4_0 x10_2).f1, (rd_T48 l4_0 x10_2).f2, (rd_T48 l4_0 x10_2).f3, (rd_T48 l4_0 x10_2).f4⟩ : S48) )) (Reps.none _ _)))
                                  intro v382 w37 ho38 hb hg_ hnew_
                                  clear hg_ hnew_
                                  (first | rw [← Ny381.out] at ho38 | (simp only [Int.reduceToNat] at ho38; rw [← Ny381.out] at ho38))
                                  replace HO370 := am (Kd.R_below (kr HO370) hb)
                                  have HO383 := am (Kd.R_lower (Kd.R_new' ho38 (Kd.R_lt (kr HO376))) (below_size (be HB)))
                                  replace HO376 := am (Kd.R_elder' (kr HO376) (Kd.R_base ho38) hb)
                                  replace BK351 := bB BK351 hb
                                  replace BK352 := bB BK352 hb
                                  replace BK353 := bB BK353 hb
                                  replace HB := am (below_step (be HB) hb)
                                  clear hb ho38
                                  refine hK.out _ _ ⟨cA BK353 0, cA BK351 0, cB HB hw380_0, cB HB hw380_1, cB HB hw380_2, cB HB hw380_3, cB HB hw380_4, cB HB hw380_5⟩ (fun hHeld => ?_)
                                  clear hK K
                                  refine nP ?_
                                  exact nD (hJ7_9_16 (v369, v375, v382) _ ⟨hHeld, (kr HO370), (by (with_reducible repeat (first | apply Kd.R_alloc | apply Kd.R_drewN | apply Kd.R_drew)); exact Kd.R_mono HO376.out (fun _ hk => hk.2)), (by (with_reducible repeat (first | apply Kd.R_alloc | apply Kd.R_drewN | apply Kd.R_drew)); exact Kd.R_mono HO383.out (fun _ hk => hk.2)), (kb BK351), (kb BK352), (kb BK353), (be HB)⟩)
                                 rintro ⟨v363, v382⟩ w36 ⟨hS_, h0_, h1_, h2_, h3_, h4_, h5_⟩
                                 have HO364 : Aside0 (Kd.R (Kd.int .i64) 2 w36 w.heap.size (fun _ => True) v363 y362) := ⟨h0_⟩
                                 have HO383 : Aside0 (Kd.R k48 48 w36 w.heap.size (fun _ => True) v382 y381) := ⟨h1_⟩
                                 replace BK351 : Aside0 (w36.heap[gl]? = some (.cells #[.slice (some ad360) l4_0.length c4_0] 34 (0, 0))) := ⟨h2_⟩
                                 replace BK352 : Aside0 (w36.heap[gy]? = some (.cells (csBay a5_0 a5_1 a5_2) 32 (0, 0))) := ⟨h3_⟩
                                 replace BK353 : Aside0 (w36.heap[gs]? = some (.cells #[fvS gb gl gy gs] 54 (0, 0))) := ⟨h4_⟩
                                 replace HB : Aside0 (Below w.heap.size w w36) := ⟨h5_⟩
                                 clear h0_ h1_ h2_ h3_ h4_ h5_
                                 have hHeld : Hd gb gl gy gs ad360 l4_0 c4_0 x10_2 w36 := hS_
                                 refine nQ ?_
                                 refine three_ (i := 5) (j := 7) (k := 9) (Ni := some 38) (Nj := some 40) (Nk := some 42) #[true, true, true, true, true, true, true, false, false, false, true, false, true, true, true, true, true, false, false] #[true, true, true, true, true, false, true, true, false, false, true, false, true, true, true, true, true, false, false] #[true, true, true, true, true, false, true, false, false, true, true, false, true, true, true, true, true, false, false] rfl rfl rfl rfl rfl rfl (three_of HT_.out (by kernel_rfl)) (by decide) (by decide) (by decide) (fun K hK => ?_) (fun K hK => ?_) (fun K hK => ?_)
                                 ·skip
                                  refine Kd.R_append_rows_step (Kd.int .i64) (w0 := w) w.heap.size (by rfl) (.tmp 36) (.tmp 37) 29 2 (.int .i64 0) 8 rfl Try.underlying29 info2 rfl (by decide) (by omega) v363 y362 l1 _ _ _ (fun _ => True) (fun _ => False) rfl rfl ?aO ?aR (fun _ _ h => h) (fun _ h => h.elim) ?aF ?aB ?aS ?aL ?_
                                  (case aR => repeat (first | exact (Kd.C_below HR1.out HB.out) | (with_reducible refine Kd.C_alloc ?_ _) | (with_reducible refine Kd.C_drewN ?_ _) | (with_reducible refine Kd.C_drew ?_)))
                                  (case aB => exact (be HB))
                                  (case aF => exact (fun _ _ => trivial))
                                  (case aO => exact (kr HO364))
                                  (case aS => exact (below_size (be HB)))
                                  (case aL => have := LMc21.out; omega)
                                  intro v366 w37 ho hb hg hat
                                  rw [← Ny365.out] at ho
                                  replace BK351 := am (blk_grown (g := gl) (o := .cells #[.slice (some ad360) l4_0.length c4_0] 34 (0, 0)) (kb BK351) hg (Kd.R_ne HO364.out BK351.out (by decide)))
                                  replace BK352 := am (blk_grown (g := gy) (o := .cells (csBay a5_0 a5_1 a5_2) 32 (0, 0)) (kb BK352) hg (Kd.R_ne HO364.out BK352.out (by decide)))
                                  replace BK353 := am (blk_grown (g := gs) (o := .cells #[fvS gb gl gy gs] 54 (0, 0)) (kb BK353) hg (Kd.R_ne HO364.out BK353.out (by decide)))
                                  replace HO383 := am (Kd.R_over' (kr HO383) (Kd.R_typed (kr HO364)) (by decide) hg)
                                  replace HB := am (hb)
                                  have HO367 := am (ho)
                                  clear HO364
                                  clear ho hb hg hat
                                  refine hK.out _ _ ⟨cA BK353 0, cA BK351 0, cB HB hw380_0, cB HB hw380_1, cB HB hw380_2, cB HB hw380_3, cB HB hw380_4, cB HB hw380_5⟩ (fun hHeld => ?_)
                                  clear hK K
                                  refine nP ?_
                                  exact nD (hJ3_5_16 (v363, v366, v382) _ ⟨hHeld, (kr HO367), (kr HO383), (kb BK351), (kb BK352), (kb BK353), (be HB)⟩)
                                 ·skip
                                  refine Kd.R_lit_step (Kd.int .i64) _ 2 ?hg (N := 40) ?hd (xs := ([x10_2] : List Int)) (inner := [.int .i64 x10_2]) (ok := fun _ => True) (okp := fun _ => True) ?hr ?hp (fun _ hk => hk) trivial (Below.refl _ _) (Nat.le_refl _) (by simp) ?_; (case hd => rfl); (case hg => rfl); (case hr => first | (go_simp; done) | (go_simp; rfl)); (case hp => exact (Reps.one (show Kd.M (Kd.int .i64) _ _ _ x10_2 [.int .i64 x10_2] from rfl) (Reps.none _ _)))
                                  intro v369 w37 ho38 hb hg_ hnew_
                                  clear hg_ hnew_
                                  (first | rw [← Ny368.out] at ho38 | (simp only [Int.reduceToNat] at ho38; rw [← Ny368.out] at ho38))
                                  replace HO383 := am (Kd.R_below (kr HO383) hb)
                                  have HO370 := am (Kd.R_lower (Kd.R_new' ho38 (Kd.R_lt (kr HO364))) (below_size (be HB)))
                                  replace HO364 := am (Kd.R_elder' (kr HO364) (Kd.R_base ho38) hb)
                                  replace BK351 := bB BK351 hb
                                  replace BK352 := bB BK352 hb
                                  replace BK353 := bB BK353 hb
                                  replace HB := am (below_step (be HB) hb)
                                  clear hb ho38
                                  refine hK.out _ _ ⟨cA BK353 0, cA BK351 0, cB HB hw380_0, cB HB hw380_1, cB HB hw380_2, cB HB hw380_3, cB HB hw380_4, cB HB hw380_5⟩ (fun hHeld => ?_)
                                  clear hK K
                                  refine nP ?_
                                  exact nD (hJ3_7_16 (v363, v369, v382) _ ⟨hHeld, (by (with_reducible repeat (first | apply Kd.R_alloc | apply Kd.R_drewN | apply Kd.R_drew)); exact Kd.R_mono HO364.out (fun _ hk => hk.2)), (by (with_reducible repeat (first | apply Kd.R_alloc | apply Kd.R_drewN | apply Kd.R_drew)); exact Kd.R_mono HO370.out (fun _ hk => hk.2)), (kr HO383), (kb BK351), (kb BK352), (kb BK353), (be HB)⟩)
                                 refine Kd.R_lit_step k48 _ 48 ?hg (N := 42) ?hd (xs := ([] : List (S48))) (inner := []) (ok := fun _ => True) (okp := fun _ => True) ?hr ?hp (fun _ hk => hk) trivial (Below.refl _ _) (Nat.le_refl _) (by simp) ?_; (case hd => rfl); (case hg => rfl); (case hr => first | (go_simp; done) | (go_simp; rfl)); (case hp => exact (Reps.none _ _))
                                 intro v375 w37 ho38 hb hg_ hnew_
                                 clear hg_ hnew_
                                 (first | rw [← Ny374.out] at ho38 | (simp only [Int.reduceToNat] at ho38; rw [← Ny374.out] at ho38))
                                 replace HO364 := am (Kd.R_below (kr HO364) hb)
                                 have HO376 := am (Kd.R_lower (Kd.R_new' ho38 (Kd.R_lt (kr HO383))) (below_size (be HB)))
                                 replace HO383 := am (Kd.R_elder' (kr HO383) (Kd.R_base ho38) hb)
                                 replace BK351 := bB BK351 hb
                                 replace BK352 := bB BK352 hb
                                 replace BK353 := bB BK353 hb
                                 replace HB := am (below_step (be HB) hb)
                                 clear hb ho38
                                 refine hK.out _ _ ⟨cA BK353 0, cA BK351 0, cB HB hw380_0, cB HB hw380_1, cB HB hw380_2, cB HB hw380_3, cB HB hw380_4, cB HB hw380_5⟩ (fun hHeld => ?_)
                                 clear hK K
                                 refine nP ?_
                                 exact nD (hJ3_9_16 (v363, v375, v382) _ ⟨hHeld, (kr HO364), (by (with_reducible repeat (first | apply Kd.R_alloc | apply Kd.R_drewN | apply Kd.R_drew)); exact Kd.R_mono HO376.out (fun _ hk => hk.2)), (by (with_reducible repeat (first | apply Kd.R_alloc | apply Kd.R_drewN | apply Kd.R_drew)); exact Kd.R_mono HO383.out (fun _ hk => hk.2)), (kb BK351), (kb BK352), (kb BK353), (be HB)⟩)
                                rintro ⟨v363, v375⟩ w36 ⟨hS_, h0_, h1_, h2_, h3_, h4_, h5_⟩
                                have HO364 : Aside0 (Kd.R (Kd.int .i64) 2 w36 w.heap.size (fun _ => True) v363 y362) := ⟨h0_⟩
                                have HO376 : Aside0 (Kd.R k48 48 w36 w.heap.size (fun _ => True) v375 y374) := ⟨h1_⟩
                                replace BK351 : Aside0 (w36.heap[gl]? = some (.cells #[.slice (some ad360) l4_0.length c4_0] 34 (0, 0))) := ⟨h2_⟩
                                replace BK352 : Aside0 (w36.heap[gy]? = some (.cells (csBay a5_0 a5_1 a5_2) 32 (0, 0))) := ⟨h3_⟩
                                replace BK353 : Aside0 (w36.heap[gs]? = some (.cells #[fvS gb gl gy gs] 54 (0, 0))) := ⟨h4_⟩
                                replace HB : Aside0 (Below w.heap.size w w36) := ⟨h5_⟩
                                clear h0_ h1_ h2_ h3_ h4_ h5_
                                have hHeld : Hd gb gl gy gs ad360 l4_0 c4_0 x10_2 w36 := hS_
                                refine nQ ?_
                                refine three_ (i := 5) (j := 7) (k := 16) (Ni := some 38) (Nj := some 40) (Nk := some 49) #[true, true, true, true, true, true, true, false, false, true, true, false, true, true, true, true, false, false, false] #[true, true, true, true, true, false, true, true, false, true, true, false, true, true, true, true, false, false, false] #[true, true, true, true, true, false, true, false, false, true, true, false, true, true, true, true, true, false, false] rfl rfl rfl rfl rfl rfl (three_of HT_.out (by kernel_rfl)) (by decide) (by decide) (by decide) (fun K hK => ?_) (fun K hK => ?_) (fun K hK => ?_)
                                ·skip
                                 refine Kd.R_append_rows_step (Kd.int .i64) (w0 := w) w.heap.size (by rfl) (.tmp 36) (.tmp 37) 29 2 (.int .i64 0) 8 rfl Try.underlying29 info2 rfl (by decide) (by omega) v363 y362 l1 _ _ _ (fun _ => True) (fun _ => False) rfl rfl ?aO ?aR (fun _ _ h => h) (fun _ h => h.elim) ?aF ?aB ?aS ?aL ?_
                                 (case aR => repeat (first | exact (Kd.C_below HR1.out HB.out) | (with_reducible refine Kd.C_alloc ?_ _) | (with_reducible refine Kd.C_drewN ?_ _) | (with_reducible refine Kd.C_drew ?_)))
                                 (case aB => exact (be HB))
                                 (case aF => exact (fun _ _ => trivial))
                                 (case aO => exact (kr HO364))
                                 (case aS => exact (below_size (be HB)))
                                 (case aL => have := LMc21.out; omega)
                                 intro v366 w37 ho hb hg hat
                                 rw [← Ny365.out] at ho
                                 replace BK351 := am (blk_grown (g := gl) (o := .cells #[.slice (some ad360) l4_0.length c4_0] 34 (0, 0)) (kb BK351) hg (Kd.R_ne HO364.out BK351.out (by decide)))
                                 replace BK352 := am (blk_grown (g := gy) (o := .cells (csBay a5_0 a5_1 a5_2) 32 (0, 0)) (kb BK352) hg (Kd.R_ne HO364.out BK352.out (by decide)))
                                 replace BK353 := am (blk_grown (g := gs) (o := .cells #[fvS gb gl gy gs] 54 (0, 0)) (kb BK353) hg (Kd.R_ne HO364.out BK353.out (by decide)))
                                 replace HO376 := am (Kd.R_over' (kr HO376) (Kd.R_typed (kr HO364)) (by decide) hg)
                                 replace HB := am (hb)
                                 have HO367 := am (ho)
                                 clear HO364
                                 clear ho hb hg hat
                                 refine hK.out _ _ ⟨cA BK353 0, cA BK351 0, cB HB hw380_0, cB HB hw380_1, cB HB hw380_2, cB HB hw380_3, cB HB hw380_4, cB HB hw380_5⟩ (fun hHeld => ?_)
                                 clear hK K
                                 refine nP ?_
                                 exact nD (hJ3_5_9 (v363, v366, v375) _ ⟨hHeld, (kr HO367), (kr HO376), (kb BK351), (kb BK352), (kb BK353), (be HB)⟩)
                                ·skip
                                 refine Kd.R_lit_step (Kd.int .i64) _ 2 ?hg (N := 40) ?hd (xs := ([x10_2] : List Int)) (inner := [.int .i64 x10_2]) (ok := fun _ => True) (okp := fun _ => True) ?hr ?hp (fun _ hk => hk) trivial (Below.refl _ _) (Nat.le_refl _) (by simp) ?_; (case hd => rfl); (case hg => rfl); (case hr => first | (go_simp; done) | (go_simp; rfl)); (case hp => exact (Reps.one (show Kd.M (Kd.int .i64) _ _ _ x10_2 [.int .i64 x10_2] from rfl) (Reps.none _ _)))
                                 intro v369 w37 ho38 hb hg_ hnew_
                                 clear hg_ hnew_
                                 (first | rw [← Ny368.out] at ho38 | (simp only [Int.reduceToNat] at ho38; rw [← Ny368.out] at ho38))
                                 replace HO376 := am (Kd.R_below (kr HO376) hb)
                                 have HO370 := am (Kd.R_lower (Kd.R_new' ho38 (Kd.R_lt (kr HO364))) (below_size (be HB)))
                                 replace HO364 := am (Kd.R_elder' (kr HO364) (Kd.R_base ho38) hb)
                                 replace BK351 := bB BK351 hb
                                 replace BK352 := bB BK352 hb
                                 replace BK353 := bB BK353 hb
                                 replace HB := am (below_step (be HB) hb)
                                 clear hb ho38
                                 refine hK.out _ _ ⟨cA BK353 0, cA BK351 0, cB HB hw380_0, cB HB hw380_1, cB HB hw380_2, cB HB hw380_3, cB HB hw380_4, cB HB hw380_5⟩ (fun hHeld => ?_)
                                 clear hK K
                                 refine nP ?_
                                 exact nD (hJ3_7_9 (v363, v369, v375) _ ⟨hHeld, (by (with_reducible repeat (first | apply Kd.R_alloc | apply Kd.R_drewN | apply Kd.R_drew)); exact Kd.R_mono HO364.out (fun _ hk => hk.2)), (by (with_reducible repeat (first | apply Kd.R_alloc | apply Kd.R_drewN | apply Kd.R_drew)); exact Kd.R_mono HO370.out (fun _ hk => hk.2)), (kr HO376), (kb BK351), (kb BK352), (kb BK353), (be HB)⟩)
                                refine Kd.R_lit_step k48 _ 48 ?hg (N := 49) ?hd (xs := ([(⟨(⟨(rd_T48 l4_0 x10_2).f0.f0, (rd_T48 l4_0 x10_2).f0.f1⟩ : S46), (rd_T48 l4_0 x10_2).f1, (rd_T48 l4_0 x10_2).f2, (rd_T48 l4_0 x10_2).f3, (rd_T48 l4_0 x10_2).f4⟩ : S48)] : List (S48))) (inner := [.int .i8 ((rd_T48 l4_0 x10_2).f0.f0), .int .i8 ((rd_T48 l4_0 x10_2).f0.f1), .int .i8 ((rd_T48 l4_0 x10_2).f1), .int .i8 ((rd_T48 l4_0 x10_2).f2), .int .i8 ((rd_T48 l4_0 x10_2).f3), .int .i8 ((rd_T48 l4_0 x10_2).f4)]) (ok := fun _ => True) (okp := fun _ => True) ?hr ?hp (fun _ hk => hk) trivial (Below.refl _ _) (Nat.le_refl _) (by simp) ?_; (case hd => rfl); (case hg => rfl); (case hr => first | (go_simp; done) | (go_simp; rfl)); (case hp => exact (Reps.c6 (show Kd.M k48 _ _ _ (⟨(⟨(rd_T48 l4_0 x10_2).f0.f0, (rd_T48 l4_0 x10_2).f0.f1⟩ : S46), (rd_T48 l4_0 x10_2).f1, (rd_T48 l4_0 x10_2).f2, (rd_T48 l4_0 x10_2).f3, (rd_T48 l4_0 x10_2).f4⟩ : S48) [.int .i8 ((rd_T48 l4_0 x10_2).f0.f0), .int .i8 ((rd_T48 l4_0 x10_2).f0.f1), .int .i8 ((rd_T48 l4_0 x10_2).f1), .int .i8 ((rd_T48 l4_0 x10_2).f2), .int .i8 ((rd_T48 l4_0 x10_2).f3), .int .i8 ((rd_T48 l4_0 x10_2).f4)] from (k48_mkM _ _ _ (⟨(⟨(rd_T48 l4_0 x10_2).f0.f0, (rd_T48 l4_0 x10_2).f0.f1⟩ : S46), (rd_T48 l4_0 x10_2).f1, (rd_T48 l4_0 x10_2).f2, (rd_T48 l4_0 x10_2).f3, (rd_T48 l4_0 x10_2).f4⟩ : S48) )) (Reps.none _ _)))
                                intro v382 w37 ho38 hb hg_ hnew_
                                clear hg_ hnew_
                                (first | rw [← Ny381.out] at ho38 | (simp only [Int.reduceToNat] at ho38; rw [← Ny381.out] at ho38))
                                replace HO364 := am (Kd.R_below (kr HO364) hb)
                                have HO383 := am (Kd.R_lower (Kd.R_new' ho38 (Kd.R_lt (kr HO376))) (below_size (be HB)))
                                replace HO376 := am (Kd.R_elder' (kr HO376) (Kd.R_base ho38) hb)
                                replace BK351 := bB BK351 hb
                                replace BK352 := bB BK352 hb
                                replace BK353 := bB BK353 hb
                                replace HB := am (below_step (be HB) hb)
                                clear hb ho38
                                refine hK.out _ _ ⟨cA BK353 0, cA BK351 0, cB HB hw380_0, cB HB hw380_1, cB HB hw380_2, cB HB hw380_3, cB HB hw380_4, cB HB hw380_5⟩ (fun hHeld => ?_)
                                clear hK K
                                refine nP ?_
                                exact nD (hJ3_9_16 (v363, v375, v382) _ ⟨hHeld, (kr HO364), (by (with_reducible repeat (first | apply Kd.R_alloc | apply Kd.R_drewN | apply Kd.R_drew)); exact Kd.R_mono HO376.out (fun _ hk => hk.2)), (by (with_reducible repeat (first | apply Kd.R_alloc | apply Kd.R_drewN | apply Kd.R_drew)); exact Kd.R_mono HO383.out (fun _ hk => hk.2)), (kb BK351), (kb BK352), (kb BK353), (be HB)⟩)
                               rintro ⟨v363, v369⟩ w36 ⟨hS_, h0_, h1_, h2_, h3_, h4_, h5_⟩
                               have HO364 : Aside0 (Kd.R (Kd.int .i64) 2 w36 w.heap.size (fun k_ => some k_ ≠ (v369 : Value).ownBlock) v363 y362) := ⟨h0_⟩
                               have HO370 : Aside0 (Kd.R (Kd.int .i64) 2 w36 w.heap.size (fun k_ => some k_ ≠ (v363 : Value).ownBlock) v369 y368) := ⟨h1_⟩
                               replace BK351 : Aside0 (w36.heap[gl]? = some (.cells #[.slice (some ad360) l4_0.length c4_0] 34 (0, 0))) := ⟨h2_⟩
                               replace BK352 : Aside0 (w36.heap[gy]? = some (.cells (csBay a5_0 a5_1 a5_2) 32 (0, 0))) := ⟨h3_⟩
                               replace BK353 : Aside0 (w36.heap[gs]? = some (.cells #[fvS gb gl gy gs] 54 (0, 0))) := ⟨h4_⟩
                               replace HB : Aside0 (Below w.heap.size w w36) := ⟨h5_⟩
                               clear h0_ h1_ h2_ h3_ h4_ h5_
                               have hHeld : Hd gb gl gy gs ad360 l4_0 c4_0 x10_2 w36 := hS_
                               refine nQ ?_
                               refine three_ (i := 5) (j := 9) (k := 16) (Ni := some 38) (Nj := some 42) (Nk := some 49) #[true, true, true, true, true, true, true, true, false, false, true, false, true, true, true, true, false, false, false] #[true, true, true, true, true, false, true, true, false, true, true, false, true, true, true, true, false, false, false] #[true, true, true, true, true, false, true, true, false, false, true, false, true, true, true, true, true, false, false] rfl rfl rfl rfl rfl rfl (three_of HT_.out (by kernel_rfl)) (by decide) (by decide) (by decide) (fun K hK => ?_) (fun K hK => ?_) (fun K hK => ?_)
                               ·skip
                                refine Kd.R_append_rows_step (Kd.int .i64) (w0 := w) w.heap.size (by rfl) (.tmp 36) (.tmp 37) 29 2 (.int .i64 0) 8 rfl Try.underlying29 info2 rfl (by decide) (by omega) v363 y362 l1 _ _ _ (fun k_ => some k_ ≠ (v369 : Value).ownBlock) (fun _ => False) rfl rfl ?aO ?aR (fun _ _ h => h) (fun _ h => h.elim) ?aF ?aB ?aS ?aL ?_
                                (case aR => repeat (first | exact (Kd.C_below HR1.out HB.out) | (with_reducible refine Kd.C_alloc ?_ _) | (with_reducible refine Kd.C_drewN ?_ _) | (with_reducible refine Kd.C_drew ?_)))
                                (case aB => exact (be HB))
                                (case aF => exact (fun k_ hk => Kd.fresh' (Kd.R_lt (kr HO370)) k_ hk))
                                (case aO => exact (kr HO364))
                                (case aS => exact (below_size (be HB)))
                                (case aL => have := LMc21.out; omega)
                                intro v366 w37 ho hb hg hat
                                rw [← Ny365.out] at ho
                                replace BK351 := am (blk_grown (g := gl) (o := .cells #[.slice (some ad360) l4_0.length c4_0] 34 (0, 0)) (kb BK351) hg (Kd.R_ne HO364.out BK351.out (by decide)))
                                replace BK352 := am (blk_grown (g := gy) (o := .cells (csBay a5_0 a5_1 a5_2) 32 (0, 0)) (kb BK352) hg (Kd.R_ne HO364.out BK352.out (by decide)))
                                replace BK353 := am (blk_grown (g := gs) (o := .cells #[fvS gb gl gy gs] 54 (0, 0)) (kb BK353) hg (Kd.R_ne HO364.out BK353.out (by decide)))
                                replace HO370 := am (Kd.R_after (ok := (fun _ => True)) (by (with_reducible repeat (first | apply Kd.R_alloc | apply Kd.R_drewN | apply Kd.R_drew)); exact Kd.R_mono HO370.out (fun _ hk => ⟨trivial, hk⟩)) hg hat)
                                replace HB := am (hb)
                                have HO367 := am (ho)
                                clear HO364
                                clear ho hb hg hat
                                refine hK.out _ _ ⟨cA BK353 0, cA BK351 0, cB HB hw380_0, cB HB hw380_1, cB HB hw380_2, cB HB hw380_3, cB HB hw380_4, cB HB hw380_5⟩ (fun hHeld => ?_)
                                clear hK K
                                refine nP ?_
                                exact nD (hJ3_5_7 (v363, v366, v369) _ ⟨hHeld, (kr HO367), (by (with_reducible repeat (first | apply Kd.R_alloc | apply Kd.R_drewN | apply Kd.R_drew)); exact Kd.R_mono HO370.out (fun _ hk => hk.2)), (kb BK351), (kb BK352), (kb BK353), (be HB)⟩)
                               ·skip
                                refine Kd.R_lit_step k48 _ 48 ?hg (N := 42) ?hd (xs := ([] : List (S48))) (inner := []) (ok := fun _ => True) (okp := fun _ => True) ?hr ?hp (fun _ hk => hk) trivial (Below.refl _ _) (Nat.le_refl _) (by simp) ?_; (case hd => rfl); (case hg => rfl); (case hr => first | (go_simp; done) | (go_simp; rfl)); (case hp => exact (Reps.none _ _))
                                intro v375 w37 ho38 hb hg_ hnew_
                                clear hg_ hnew_
                                (first | rw [← Ny374.out] at ho38 | (simp only [Int.reduceToNat] at ho38; rw [← Ny374.out] at ho38))
                                replace HO364 := am (Kd.R_below (kr HO364) hb)
                                replace HO370 := am (Kd.R_below (kr HO370) hb)
                                have HO376 := am (Kd.R_lower ho38 (below_size (be HB)))
                                replace BK351 := bB BK351 hb
                                replace BK352 := bB BK352 hb
                                replace BK353 := bB BK353 hb
                                replace HB := am (below_step (be HB) hb)
                                clear hb ho38
                                refine hK.out _ _ ⟨cA BK353 0, cA BK351 0, cB HB hw380_0, cB HB hw380_1, cB HB hw380_2, cB HB hw380_3, cB HB hw380_4, cB HB hw380_5⟩ (fun hHeld => ?_)
                                clear hK K
                                refine nP ?_
                                exact nD (hJ3_7_9 (v363, v369, v375) _ ⟨hHeld, (kr HO364), (kr HO370), (kr HO376), (kb BK351), (kb BK352), (kb BK353), (be HB)⟩)
                               refine Kd.R_lit_step k48 _ 48 ?hg (N := 49) ?hd (xs := ([(⟨(⟨(rd_T48 l4_0 x10_2).f0.f0, (rd_T48 l4_0 x10_2).f0.f1⟩ : S46), (rd_T48 l4_0 x10_2).f1, (rd_T48 l4_0 x10_2).f2, (rd_T48 l4_0 x10_2).f3, (rd_T48 l4_0 x10_2).f4⟩ : S48)] : List (S48))) (inner := [.int .i8 ((rd_T48 l4_0 x10_2).f0.f0), .int .i8 ((rd_T48 l4_0 x10_2).f0.f1), .int .i8 ((rd_T48 l4_0 x10_2).f1), .int .i8 ((rd_T48 l4_0 x10_2).f2), .int .i8 ((rd_T48 l4_0 x10_2).f3), .int .i8 ((rd_T48 l4_0 x10_2).f4)]) (ok := fun _ => True) (okp := fun _ => True) ?hr ?hp (fun _ hk => hk) trivial (Below.refl _ _) (Nat.le_refl _) (by simp) ?_; (case hd => rfl); (case hg => rfl); (case hr => first | (go_simp; done) | (go_simp; rfl)); (case hp => exact (Reps.c6 (show Kd.M k48 _ _ _ (⟨(⟨(rd_T48 l4_0 x10_2).f0.f0, (rd_T48 l4_0 x10_2).f0.f1⟩ : S46), (rd_T48 l4_0 x10_2).f1, (rd_T48 l4_0 x10_2).f2, (rd_T48 l4_0 x10_2).f3, (rd_T48 l4_0 x10_2).f4⟩ : S48) [.int .i8 ((rd_T48 l4_0 x10_2).f0.f0), .int .i8 ((rd_T48 l4_0 x10_2).f0.f1), .int .i8 ((rd_T48 l4_0 x10_2).f1), .int .i8 ((rd_T48 l4_0 x10_2).f2), .int .i8 ((rd_T48 l4_0 x10_2).f3), .int .i8 ((rd_T48 l4_0 x10_2).f4)] from (k48_mkM _ _ _ (⟨(⟨(rd_T48 l4_0 x10_2).f0.f0, (rd_T48 l4_0 x10_2).f0.f1⟩ : S46), (rd_T48 l4_0 x10_2).f1, (rd_T48 l4_0 x10_2).f2, (rd_T48 l4_0 x10_2).f3, (rd_T48 l4_0 x10_2).f4⟩ : S48) )) (Reps.none _ _)))
                               intro v382 w37 ho38 hb hg_ hnew_
                               clear hg_ hnew_
                               (first | rw [← Ny381.out] at ho38 | (simp only [Int.reduceToNat] at ho38; rw [← Ny381.out] at ho38))
                               replace HO364 := am (Kd.R_below (kr HO364) hb)
                               replace HO370 := am (Kd.R_below (kr HO370) hb)
                               have HO383 := am (Kd.R_lower ho38 (below_size (be HB)))
                               replace BK351 := bB BK351 hb
                               replace BK352 := bB BK352 hb
                               replace BK353 := bB BK353 hb
                               replace HB := am (below_step (be HB) hb)
                               clear hb ho38
                               refine hK.out _ _ ⟨cA BK353 0, cA BK351 0, cB HB hw380_0, cB HB hw380_1, cB HB hw380_2, cB HB hw380_3, cB HB hw380_4, cB HB hw380_5⟩ (fun hHeld => ?_)
                               clear hK K
                               refine nP ?_
                               exact nD (hJ3_7_16 (v363, v369, v382) _ ⟨hHeld, (kr HO364), (kr HO370), (kr HO383), (kb BK351), (kb BK352), (kb BK353), (be HB)⟩)
                              rintro ⟨v363, v366⟩ w35 ⟨hS_, h0_, h1_, h2_, h3_, h4_⟩
                              have HO367 : Aside0 (Kd.R (Kd.int .i64) 2 w35 w.heap.size (fun _ => True) v366 y365) := ⟨h0_⟩
                              replace BK351 : Aside0 (w35.heap[gl]? = some (.cells #[.slice (some ad360) l4_0.length c4_0] 34 (0, 0))) := ⟨h1_⟩
                              replace BK352 : Aside0 (w35.heap[gy]? = some (.cells (csBay a5_0 a5_1 a5_2) 32 (0, 0))) := ⟨h2_⟩
                              replace BK353 : Aside0 (w35.heap[gs]? = some (.cells #[fvS gb gl gy gs] 54 (0, 0))) := ⟨h3_⟩
                              replace HB : Aside0 (Below w.heap.size w w35) := ⟨h4_⟩
                              clear h0_ h1_ h2_ h3_ h4_
                              have hHeld : Hd gb gl gy gs ad360 l4_0 c4_0 x10_2 w35 := hS_
                              refine nQ ?_
                              refine three_ (i := 7) (j := 9) (k := 16) (Ni := some 40) (Nj := some 42) (Nk := some 49) #[true, true, true, true, true, true, true, true, false, false, true, false, true, true, true, true, false, false, false] #[true, true, true, true, true, true, true, false, false, true, true, false, true, true, true, true, false, false, false] #[true, true, true, true, true, true, true, false, false, false, true, false, true, true, true, true, true, false, false] rfl rfl rfl rfl rfl rfl (three_of HT_.out (by kernel_rfl)) (by decide) (by decide) (by decide) (fun K hK => ?_) (fun K hK => ?_) (fun K hK => ?_)
                              ·skip
                               refine Kd.R_lit_step (Kd.int .i64) _ 2 ?hg (N := 40) ?hd (xs := ([x10_2] : List Int)) (inner := [.int .i64 x10_2]) (ok := fun _ => True) (okp := fun _ => True) ?hr ?hp (fun _ hk => hk) trivial (Below.refl _ _) (Nat.le_refl _) (by simp) ?_; (case hd => rfl); (case hg => rfl); (case hr => first | (go_simp; done) | (go_simp; rfl)); (case hp => exact (Reps.one (show Kd.M (Kd.int .i64) _ _ _ x10_2 [.int .i64 x10_2] from rfl) (Reps.none _ _)))
                               intro v369 w36 ho37 hb hg_ hnew_
                               clear hg_ hnew_
                               (first | rw [← Ny368.out] at ho37 | (simp only [Int.reduceToNat] at ho37; rw [← Ny368.out] at ho37))
                               have HO370 := am (Kd.R_lower (Kd.R_new' ho37 (Kd.R_lt (kr HO367))) (below_size (be HB)))
                               replace HO367 := am (Kd.R_elder' (kr HO367) (Kd.R_base ho37) hb)
                               replace BK351 := bB BK351 hb
                               replace BK352 := bB BK352 hb
                               replace BK353 := bB BK353 hb
                               replace HB := am (below_step (be HB) hb)
                               clear hb ho37
                               refine hK.out _ _ ⟨cA BK353 0, cA BK351 0, cB HB hw380_0, cB HB hw380_1, cB HB hw380_2, cB HB hw380_3, cB HB hw380_4, cB HB hw380_5⟩ (fun hHeld => ?_)
                               clear hK K
                               refine nP ?_
                               exact nD (hJ3_5_7 (v363, v366, v369) _ ⟨hHeld, (by (with_reducible repeat (first | apply Kd.R_alloc | apply Kd.R_drewN | apply Kd.R_drew)); exact Kd.R_mono HO367.out (fun _ hk => hk.2)), (by (with_reducible repeat (first | apply Kd.R_alloc | apply Kd.R_drewN | apply Kd.R_drew)); exact Kd.R_mono HO370.out (fun _ hk => hk.2)), (kb BK351), (kb BK352), (kb BK353), (be HB)⟩)
                              ·skip
                               refine Kd.R_lit_step k48 _ 48 ?hg (N := 42) ?hd (xs := ([] : List (S48))) (inner := []) (ok := fun _ => True) (okp := fun _ => True) ?hr ?hp (fun _ hk => hk) trivial (Below.refl _ _) (Nat.le_refl _) (by simp) ?_; (case hd => rfl); (case hg => rfl); (case hr => first | (go_simp; done) | (go_simp; rfl)); (case hp => exact (Reps.none _ _))
                               intro v375 w36 ho37 hb hg_ hnew_
                               clear hg_ hnew_
                               (first | rw [← Ny374.out] at ho37 | (simp only [Int.reduceToNat] at ho37; rw [← Ny374.out] at ho37))
                               replace HO367 := am (Kd.R_below (kr HO367) hb)
                               have HO376 := am (Kd.R_lower ho37 (below_size (be HB)))
                               replace BK351 := bB BK351 hb
                               replace BK352 := bB BK352 hb
                               replace BK353 := bB BK353 hb
                               replace HB := am (below_step (be HB) hb)
                               clear hb ho37
                               refine hK.out _ _ ⟨cA BK353 0, cA BK351 0, cB HB hw380_0, cB HB hw380_1, cB HB hw380_2, cB HB hw380_3, cB HB hw380_4, cB HB hw380_5⟩ (fun hHeld => ?_)
                               clear hK K
                               refine nP ?_
                               exact nD (hJ3_5_9 (v363, v366, v375) _ ⟨hHeld, (kr HO367), (kr HO376), (kb BK351), (kb BK352), (kb BK353), (be HB)⟩)
                              refine Kd.R_lit_step k48 _ 48 ?hg (N := 49) ?hd (xs := ([(⟨(⟨(rd_T48 l4_0 x10_2).f0.f0, (rd_T48 l4_0 x10_2).f0.f1⟩ : S46), (rd_T48 l4_0 x10_2).f1, (rd_T48 l4_0 x10_2).f2, (rd_T48 l4_0 x10_2).f3, (rd_T48 l4_0 x10_2).f4⟩ : S48)] : List (S48))) (inner := [.int .i8 ((rd_T48 l4_0 x10_2).f0.f0), .int .i8 ((rd_T48 l4_0 x10_2).f0.f1), .int .i8 ((rd_T48 l4_0 x10_2).f1), .int .i8 ((rd_T48 l4_0 x10_2).f2), .int .i8 ((rd_T48 l4_0 x10_2).f3), .int .i8 ((rd_T48 l4_0 x10_2).f4)]) (ok := fun _ => True) (okp := fun _ => True) ?hr ?hp (fun _ hk => hk) trivial (Below.refl _ _) (Nat.le_refl _) (by simp) ?_; (case hd => rfl); (case hg => rfl); (case hr => first | (go_simp; done) | (go_simp; rfl)); (case hp => exact (Reps.c6 (show Kd.M k48 _ _ _ (⟨(⟨(rd_T48 l4_0 x10_2).f0.f0, (rd_T48 l4_0 x10_2).f0.f1⟩ : S46), (rd_T48 l4_0 x10_2).f1, (rd_T48 l4_0 x10_2).f2, (rd_T48 l4_0 x10_2).f3, (rd_T48 l4_0 x10_2).f4⟩ : S48) [.int .i8 ((rd_T48 l4_0 x10_2).f0.f0), .int .i8 ((rd_T48 l4_0 x10_2).f0.f1), .int .i8 ((rd_T48 l4_0 x10_2).f1), .int .i8 ((rd_T48 l4_0 x10_2).f2), .int .i8 ((rd_T48 l4_0 x10_2).f3), .int .i8 ((rd_T48 l4_0 x10_2).f4)] from (k48_mkM _ _ _ (⟨(⟨(rd_T48 l4_0 x10_2).f0.f0, (rd_T48 l4_0 x10_2).f0.f1⟩ : S46), (rd_T48 l4_0 x10_2).f1, (rd_T48 l4_0 x10_2).f2, (rd_T48 l4_0 x10_2).f3, (rd_T48 l4_0 x10_2).f4⟩ : S48) )) (Reps.none _ _)))
                              intro v382 w36 ho37 hb hg_ hnew_
                              clear hg_ hnew_
                              (first | rw [← Ny381.out] at ho37 | (simp only [Int.reduceToNat] at ho37; rw [← Ny381.out] at ho37))
                              replace HO367 := am (Kd.R_below (kr HO367) hb)
                              have HO383 := am (Kd.R_lower ho37 (below_size (be HB)))
                              replace BK351 := bB BK351 hb
                              replace BK352 := bB BK352 hb
                              replace BK353 := bB BK353 hb
                              replace HB := am (below_step (be HB) hb)
                              clear hb ho37
                              refine hK.out _ _ ⟨cA BK353 0, cA BK351 0, cB HB hw380_0, cB HB hw380_1, cB HB hw380_2, cB HB hw380_3, cB HB hw380_4, cB HB hw380_5⟩ (fun hHeld => ?_)
                              clear hK K
                              refine nP ?_
                              exact nD (hJ3_5_16 (v363, v366, v382) _ ⟨hHeld, (kr HO367), (kr HO383), (kb BK351), (kb BK352), (kb BK353), (be HB)⟩)
                             rintro ⟨v369, v375, v382⟩ w38 ⟨hS_, h0_, h1_, h2_, h3_, h4_, h5_, h6_⟩
                             have HO370 : Aside0 (Kd.R (Kd.int .i64) 2 w38 w.heap.size (fun _ => True) v369 y368) := ⟨h0_⟩
                             have HO376 : Aside0 (Kd.R k48 48 w38 w.heap.size (fun k_ => some k_ ≠ (v382 : Value).ownBlock) v375 y374) := ⟨h1_⟩
                             have HO383 : Aside0 (Kd.R k48 48 w38 w.heap.size (fun k_ => some k_ ≠ (v375 : Value).ownBlock) v382 y381) := ⟨h2_⟩
                             replace BK351 : Aside0 (w38.heap[gl]? = some (.cells #[.slice (some ad360) l4_0.length c4_0] 34 (0, 0))) := ⟨h3_⟩
                             replace BK352 : Aside0 (w38.heap[gy]? = some (.cells (csBay a5_0 a5_1 a5_2) 32 (0, 0))) := ⟨h4_⟩
                             replace BK353 : Aside0 (w38.heap[gs]? = some (.cells #[fvS gb gl gy gs] 54 (0, 0))) := ⟨h5_⟩
                             replace HB : Aside0 (Below w.heap.size w w38) := ⟨h6_⟩
                             clear h0_ h1_ h2_ h3_ h4_ h5_ h6_
                             have hHeld : Hd gb gl gy gs ad360 l4_0 c4_0 x10_2 w38 := hS_
                             refine nQ ?_
                             refine one_ (i := 3) (N := some 36) #[true, true, true, true, true, false, true, true, false, true, true, false, true, true, true, true, true, false, false] rfl rfl (one_of HT_.out (by kernel_rfl)) (by decide) (fun K hK => ?_)
                             refine Kd.R_lit_step (Kd.int .i64) _ 2 ?hg (N := 36) ?hd (xs := ([] : List Int)) (inner := []) (ok := fun _ => True) (okp := fun _ => True) ?hr ?hp (fun _ hk => hk) trivial (Below.refl _ _) (Nat.le_refl _) (by simp) ?_; (case hd => rfl); (case hg => rfl); (case hr => first | (go_simp; done) | (go_simp; rfl)); (case hp => exact (Reps.none _ _))
                             intro v363 w39 ho40 hb hg_ hnew_
                             clear hg_ hnew_
                             (first | rw [← Ny362.out] at ho40 | (simp only [Int.reduceToNat] at ho40; rw [← Ny362.out] at ho40))
                             replace HO376 := am (Kd.R_below (kr HO376) hb)
                             replace HO383 := am (Kd.R_below (kr HO383) hb)
                             have HO364 := am (Kd.R_lower (Kd.R_new' ho40 (Kd.R_lt (kr HO370))) (below_size (be HB)))
                             replace HO370 := am (Kd.R_elder' (kr HO370) (Kd.R_base ho40) hb)
                             replace BK351 := bB BK351 hb
                             replace BK352 := bB BK352 hb
                             replace BK353 := bB BK353 hb
                             replace HB := am (below_step (be HB) hb)
                             clear hb ho40
                             refine hK.out _ _ ⟨cA BK353 0, cA BK351 0, cB HB hw380_0, cB HB hw380_1, cB HB hw380_2, cB HB hw380_3, cB HB hw380_4, cB HB hw380_5⟩ (fun hHeld => ?_)
                             clear hK K
                             refine nP ?_
                             exact nD (hJ3_7_9_16 (v363, v369, v375, v382) _ ⟨hHeld, (by (with_reducible repeat (first | apply Kd.R_alloc | apply Kd.R_drewN | apply Kd.R_drew)); exact Kd.R_mono HO364.out (fun _ hk => hk.2)), (by (with_reducible repeat (first | apply Kd.R_alloc | apply Kd.R_drewN | apply Kd.R_drew)); exact Kd.R_mono HO370.out (fun _ hk => hk.2)), (kr HO376), (kr HO383), (kb BK351), (kb BK352), (kb BK353), (be HB)⟩)
                            rintro ⟨v363, v375, v382⟩ w38 ⟨hS_, h0_, h1_, h2_, h3_, h4_, h5_, h6_⟩
                            have HO364 : Aside0 (Kd.R (Kd.int .i64) 2 w38 w.heap.size (fun _ => True) v363 y362) := ⟨h0_⟩
                            have HO376 : Aside0 (Kd.R k48 48 w38 w.heap.size (fun k_ => some k_ ≠ (v382 : Value).ownBlock) v375 y374) := ⟨h1_⟩
                            have HO383 : Aside0 (Kd.R k48 48 w38 w.heap.size (fun k_ => some k_ ≠ (v375 : Value).ownBlock) v382 y381) := ⟨h2_⟩
                            replace BK351 : Aside0 (w38.heap[gl]? = some (.cells #[.slice (some ad360) l4_0.length c4_0] 34 (0, 0))) := ⟨h3_⟩
                            replace BK352 : Aside0 (w38.heap[gy]? = some (.cells (csBay a5_0 a5_1 a5_2) 32 (0, 0))) := ⟨h4_⟩
                            replace BK353 : Aside0 (w38.heap[gs]? = some (.cells #[fvS gb gl gy gs] 54 (0, 0))) := ⟨h5_⟩
                            replace HB : Aside0 (Below w.heap.size w w38) := ⟨h6_⟩
                            clear h0_ h1_ h2_ h3_ h4_ h5_ h6_
                            have hHeld : Hd gb gl gy gs ad360 l4_0 c4_0 x10_2 w38 := hS_
                            refine nQ ?_
                            refine two_ (i := 5) (j := 7) (Ni := some 38) (Nj := some 40) #[true, true, true, true, true, true, true, false, false, true, true, false, true, true, true, true, true, false, false] #[true, true, true, true, true, false, true, true, false, true, true, false, true, true, true, true, true, false, false] rfl rfl rfl rfl (two_of HT_.out (by kernel_rfl)) (by decide) (by decide) (fun K hK => ?_) (fun K hK => ?_)
                            ·skip
                             refine Kd.R_append_rows_step (Kd.int .i64) (w0 := w) w.heap.size (by rfl) (.tmp 36) (.tmp 37) 29 2 (.int .i64 0) 8 rfl Try.underlying29 info2 rfl (by decide) (by omega) v363 y362 l1 _ _ _ (fun _ => True) (fun _ => False) rfl rfl ?aO ?aR (fun _ _ h => h) (fun _ h => h.elim) ?aF ?aB ?aS ?aL ?_
                             (case aR => repeat (first | exact (Kd.C_below HR1.out HB.out) | (with_reducible refine Kd.C_alloc ?_ _) | (with_reducible refine Kd.C_drewN ?_ _) | (with_reducible refine Kd.C_drew ?_)))
                             (case aB => exact (be HB))
                             (case aF => exact (fun _ _ => trivial))
                             (case aO => exact (kr HO364))
                             (case aS => exact (below_size (be HB)))
                             (case aL => have := LMc21.out; omega)
                             intro v366 w39 ho hb hg hat
                             rw [← Ny365.out] at ho
                             replace BK351 := am (blk_grown (g := gl) (o := .cells #[.slice (some ad360) l4_0.length c4_0] 34 (0, 0)) (kb BK351) hg (Kd.R_ne HO364.out BK351.out (by decide)))
                             replace BK352 := am (blk_grown (g := gy) (o := .cells (csBay a5_0 a5_1 a5_2) 32 (0, 0)) (kb BK352) hg (Kd.R_ne HO364.out BK352.out (by decide)))
                             replace BK353 := am (blk_grown (g := gs) (o := .cells #[fvS gb gl gy gs] 54 (0, 0)) (kb BK353) hg (Kd.R_ne HO364.out BK353.out (by decide)))
                             replace HO376 := am (Kd.R_over' (kr HO376) (Kd.R_typed (kr HO364)) (by decide) hg)
                             replace HO383 := am (Kd.R_over' (kr HO383) (Kd.R_typed (kr HO364)) (by decide) hg)
                             replace HB := am (hb)
                             have HO367 := am (ho)
                             clear HO364
                             clear ho hb hg hat
                             refine hK.out _ _ ⟨cA BK353 0, cA BK351 0, cB HB hw380_0, cB HB hw380_1, cB HB hw380_2, cB HB hw380_3, cB HB hw380_4, cB HB hw380_5⟩ (fun hHeld => ?_)
                             clear hK K
                             refine nP ?_
                             exact nD (hJ3_5_9_16 (v363, v366, v375, v382) _ ⟨hHeld, (kr HO367), (kr HO376), (kr HO383), (kb BK351), (kb BK352), (kb BK353), (be HB)⟩)
                            refine Kd.R_lit_step (Kd.int .i64) _ 2 ?hg (N := 40) ?hd (xs := ([x10_2] : List Int)) (inner := [.int .i64 x10_2]) (ok := fun _ => True) (okp := fun _ => True) ?hr ?hp (fun _ hk => hk) trivial (Below.refl _ _) (Nat.le_refl _) (by simp) ?_; (case hd => rfl); (case hg => rfl); (case hr => first | (go_simp; done) | (go_simp; rfl)); (case hp => exact (Reps.one (show Kd.M (Kd.int .i64) _ _ _ x10_2 [.int .i64 x10_2] from rfl) (Reps.none _ _)))
                            intro v369 w39 ho40 hb hg_ hnew_
                            clear hg_ hnew_
                            (first | rw [← Ny368.out] at ho40 | (simp only [Int.reduceToNat] at ho40; rw [← Ny368.out] at ho40))
                            replace HO376 := am (Kd.R_below (kr HO376) hb)
                            replace HO383 := am (Kd.R_below (kr HO383) hb)
                            have HO370 := am (Kd.R_lower (Kd.R_new' ho40 (Kd.R_lt (kr HO364))) (below_size (be HB)))
                            replace HO364 := am (Kd.R_elder' (kr HO364) (Kd.R_base ho40) hb)
                            replace BK351 := bB BK351 hb
                            replace BK352 := bB BK352 hb
                            replace BK353 := bB BK353 hb
                            replace HB := am (below_step (be HB) hb)
                            clear hb ho40
                            refine hK.out _ _ ⟨cA BK353 0, cA BK351 0, cB HB hw380_0, cB HB hw380_1, cB HB hw380_2, cB HB hw380_3, cB HB hw380_4, cB HB hw380_5⟩ (fun hHeld => ?_)
                            clear hK K
                            refine nP ?_
                            exact nD (hJ3_7_9_16 (v363, v369, v375, v382) _ ⟨hHeld, (by (with_reducible repeat (first | apply Kd.R_alloc | apply Kd.R_drewN | apply Kd.R_drew)); exact Kd.R_mono HO364.out (fun _ hk => hk.2)), (by (with_reducible repeat (first | apply Kd.R_alloc | apply Kd.R_drewN | apply Kd.R_drew)); exact Kd.R_mono HO370.out (fun _ hk => hk.2)), (kr HO376), (kr HO383), (kb BK351), (kb BK352), (kb BK353), (be HB)⟩)
                           rintro ⟨v363, v369, v382⟩ w38 ⟨hS_, h0_, h1_, h2_, h3_, h4_, h5_, h6_⟩
                           have HO364 : Aside0 (Kd.R (Kd.int .i64) 2 w38 w.heap.size (fun k_ => some k_ ≠ (v369 : Value).ownBlock) v363 y362) := ⟨h0_⟩
                           have HO370 : Aside0 (Kd.R (Kd.int .i64) 2 w38 w.heap.size (fun k_ => some k_ ≠ (v363 : Value).ownBlock) v369 y368) := ⟨h1_⟩
                           have HO383 : Aside0 (Kd.R k48 48 w38 w.heap.size (fun _ => True) v382 y381) := ⟨h2_⟩
                           replace BK351 : Aside0 (w38.heap[gl]? = some (.cells #[.slice (some ad360) l4_0.length c4_0] 34 (0, 0))) := ⟨h3_⟩
                           replace BK352 : Aside0 (w38.heap[gy]? = some (.cells (csBay a5_0 a5_1 a5_2) 32 (0, 0))) := ⟨h4_⟩
                           replace BK353 : Aside0 (w38.heap[gs]? = some (.cells #[fvS gb gl gy gs] 54 (0, 0))) := ⟨h5_⟩
                           replace HB : Aside0 (Below w.heap.size w w38) := ⟨h6_⟩
                           clear h0_ h1_ h2_ h3_ h4_ h5_ h6_
                           have hHeld : Hd gb gl gy gs ad360 l4_0 c4_0 x10_2 w38 := hS_
                           refine nQ ?_
                           refine two_ (i := 5) (j := 9) (Ni := some 38) (Nj := some 42) #[true, true, true, true, true, true, true, true, false, false, true, false, true, true, true, true, true, false, false] #[true, true, true, true, true, false, true, true, false, true, true, false, true, true, true, true, true, false, false] rfl rfl rfl rfl (two_of HT_.out (by kernel_rfl)) (by decide) (by decide) (fun K hK => ?_) (fun K hK => ?_)
                           ·skip
                            refine Kd.R_append_rows_step (Kd.int .i64) (w0 := w) w.heap.size (by rfl) (.tmp 36) (.tmp 37) 29 2 (.int .i64 0) 8 rfl Try.underlying29 info2 rfl (by decide) (by omega) v363 y362 l1 _ _ _ (fun k_ => some k_ ≠ (v369 : Value).ownBlock) (fun _ => False) rfl rfl ?aO ?aR (fun _ _ h => h) (fun _ h => h.elim) ?aF ?aB ?aS ?aL ?_
                            (case aR => repeat (first | exact (Kd.C_below HR1.out HB.out) | (with_reducible refine Kd.C_alloc ?_ _) | (with_reducible refine Kd.C_drewN ?_ _) | (with_reducible refine Kd.C_drew ?_)))
                            (case aB => exact (be HB))
                            (case aF => exact (fun k_ hk => Kd.fresh' (Kd.R_lt (kr HO370)) k_ hk))
                            (case aO => exact (kr HO364))
                            (case aS => exact (below_size (be HB)))
                            (case aL => have := LMc21.out; omega)
                            intro v366 w39 ho hb hg hat
                            rw [← Ny365.out] at ho
                            replace BK351 := am (blk_grown (g := gl) (o := .cells #[.slice (some ad360) l4_0.length c4_0] 34 (0, 0)) (kb BK351) hg (Kd.R_ne HO364.out BK351.out (by decide)))
                            replace BK352 := am (blk_grown (g := gy) (o := .cells (csBay a5_0 a5_1 a5_2) 32 (0, 0)) (kb BK352) hg (Kd.R_ne HO364.out BK352.out (by decide)))
                            replace BK353 := am (blk_grown (g := gs) (o := .cells #[fvS gb gl gy gs] 54 (0, 0)) (kb BK353) hg (Kd.R_ne HO364.out BK353.out (by decide)))
                            replace HO370 := am (Kd.R_after (ok := (fun _ => True)) (by (with_reducible repeat (first | apply Kd.R_alloc | apply Kd.R_drewN | apply Kd.R_drew)); exact Kd.R_mono HO370.out (fun _ hk => ⟨trivial, hk⟩)) hg hat)
                            replace HO383 := am (Kd.R_over' (kr HO383) (Kd.R_typed (kr HO364)) (by decide) hg)
                            replace HB := am (hb)
                            have HO367 := am (ho)
                            clear HO364
                            clear ho hb hg hat
                            refine hK.out _ _ ⟨cA BK353 0, cA BK351 0, cB HB hw380_0, cB HB hw380_1, cB HB hw380_2, cB HB hw380_3, cB HB hw380_4, cB HB hw380_5⟩ (fun hHeld => ?_)
                            clear hK K
                            refine nP ?_
                            exact nD (hJ3_5_7_16 (v363, v366, v369, v382) _ ⟨hHeld, (kr HO367), (by (with_reducible repeat (first | apply Kd.R_alloc | apply Kd.R_drewN | apply Kd.R_drew)); exact Kd.R_mono HO370.out (fun _ hk => hk.2)), (kr HO383), (kb BK351), (kb BK352), (kb BK353), (be HB)⟩)
                           refine Kd.R_lit_step k48 _ 48 ?hg (N := 42) ?hd (xs := ([] : List (S48))) (inner := []) (ok := fun _ => True) (okp := fun _ => True) ?hr ?hp (fun _ hk => hk) trivial (Below.refl _ _) (Nat.le_refl _) (by simp) ?_; (case hd => rfl); (case hg => rfl); (case hr => first | (go_simp; done) | (go_simp; rfl)); (case hp => exact (Reps.none _ _))
                           intro v375 w39 ho40 hb hg_ hnew_
                           clear hg_ hnew_
                           (first | rw [← Ny374.out] at ho40 | (simp only [Int.reduceToNat] at ho40; rw [← Ny374.out] at ho40))
                           replace HO364 := am (Kd.R_below (kr HO364) hb)
                           replace HO370 := am (Kd.R_below (kr HO370) hb)
                           have HO376 := am (Kd.R_lower (Kd.R_new' ho40 (Kd.R_lt (kr HO383))) (below_size (be HB)))
                           replace HO383 := am (Kd.R_elder' (kr HO383) (Kd.R_base ho40) hb)
                           replace BK351 := bB BK351 hb
                           replace BK352 := bB BK352 hb
                           replace BK353 := bB BK353 hb
                           replace HB := am (below_step (be HB) hb)
                           clear hb ho40
                           refine hK.out _ _ ⟨cA BK353 0, cA BK351 0, cB HB hw380_0, cB HB hw380_1, cB HB hw380_2, cB HB hw380_3, cB HB hw380_4, cB HB hw380_5⟩ (fun hHeld => ?_)
                           clear hK K
                           refine nP ?_
                           exact nD (hJ3_7_9_16 (v363, v369, v375, v382) _ ⟨hHeld, (kr HO364), (kr HO370), (by (with_reducible repeat (first | apply Kd.R_alloc | apply Kd.R_drewN | apply Kd.R_drew)); exact Kd.R_mono HO376.out (fun _ hk => hk.2)), (by (with_reducible repeat (first | apply Kd.R_alloc | apply Kd.R_drewN | apply Kd.R_drew)); exact Kd.R_mono HO383.out (fun _ hk => hk.2)), (kb BK351), (kb BK352), (kb BK353), (be HB)⟩)
                          rintro ⟨v363, v369, v375⟩ w38 ⟨hS_, h0_, h1_, h2_, h3_, h4_, h5_, h6_⟩
                          have HO364 : Aside0 (Kd.R (Kd.int .i64) 2 w38 w.heap.size (fun k_ => some k_ ≠ (v369 : Value).ownBlock) v363 y362) := ⟨h0_⟩
                          have HO370 : Aside0 (Kd.R (Kd.int .i64) 2 w38 w.heap.size (fun k_ => some k_ ≠ (v363 : Value).ownBlock) v369 y368) := ⟨h1_⟩
                          have HO376 : Aside0 (Kd.R k48 48 w38 w.heap.size (fun _ => True) v375 y374) := ⟨h2_⟩
                          replace BK351 : Aside0 (w38.heap[gl]? = some (.cells #[.slice (some ad360) l4_0.length c4_0] 34 (0, 0))) := ⟨h3_⟩
                          replace BK352 : Aside0 (w38.heap[gy]? = some (.cells (csBay a5_0 a5_1 a5_2) 32 (0, 0))) := ⟨h4_⟩
                          replace BK353 : Aside0 (w38.heap[gs]? = some (.cells #[fvS gb gl gy gs] 54 (0, 0))) := ⟨h5_⟩
                          replace HB : Aside0 (Below w.heap.size w w38) := ⟨h6_⟩
                          clear h0_ h1_ h2_ h3_ h4_ h5_ h6_
                          have hHeld : Hd gb gl gy gs ad360 l4_0 c4_0 x10_2 w38 := hS_
                          refine nQ ?_
                          refine two_ (i := 5) (j := 16) (Ni := some 38) (Nj := some 49) #[true, true, true, true, true, true, true, true, false, true, true, false, true, true, true, true, false, false, false] #[true, true, true, true, true, false, true, true, false, true, true, false, true, true, true, true, true, false, false] rfl rfl rfl rfl (two_of HT_.out (by kernel_rfl)) (by decide) (by decide) (fun K hK => ?_) (fun K hK => ?_)
                          ·skip
                           refine Kd.R_append_rows_step (Kd.int .i64) (w0 := w) w.heap.size (by rfl) (.tmp 36) (.tmp 37) 29 2 (.int .i64 0) 8 rfl Try.underlying29 info2 rfl (by decide) (by omega) v363 y362 l1 _ _ _ (fun k_ => some k_ ≠ (v369 : Value).ownBlock) (fun _ => False) rfl rfl ?aO ?aR (fun _ _ h => h) (fun _ h => h.elim) ?aF ?aB ?aS ?aL ?_
                           (case aR => repeat (first | exact (Kd.C_below HR1.out HB.out) | (with_reducible refine Kd.C_alloc ?_ _) | (with_reducible refine Kd.C_drewN ?_ _) | (with_reducible refine Kd.C_drew ?_)))
                           (case aB => exact (be HB))
                           (case aF => exact (fun k_ hk => Kd.fresh' (Kd.R_lt (kr HO370)) k_ hk))
                           (case aO => exact (kr HO364))
                           (case aS => exact (below_size (be HB)))
                           (case aL => have := LMc21.out; omega)
                           intro v366 w39 ho hb hg hat
                           rw [← Ny365.out] at ho
                           replace BK351 := am (blk_grown (g := gl) (o := .cells #[.slice (some ad360) l4_0.length c4_0] 34 (0, 0)) (kb BK351) hg (Kd.R_ne HO364.out BK351.out (by decide)))
                           replace BK352 := am (blk_grown (g := gy) (o := .cells (csBay a5_0 a5_1 a5_2) 32 (0, 0)) (kb BK352) hg (Kd.R_ne HO364.out BK352.out (by decide)))
                           replace BK353 := am (blk_grown (g := gs) (o := .cells #[fvS gb gl gy gs] 54 (0, 0)) (kb BK353) hg (Kd.R_ne HO364.out BK353.out (by decide)))
                           replace HO370 := am (Kd.R_after (ok := (fun _ => True)) (by (with_reducible repeat (first | apply Kd.R_alloc | apply Kd.R_drewN | apply Kd.R_drew)); exact Kd.R_mono HO370.out (fun _ hk => ⟨trivial, hk⟩)) hg hat)
                           replace HO376 := am (Kd.R_over' (kr HO376) (Kd.R_typed (kr HO364)) (by decide) hg)
                           replace HB := am (hb)
                           have HO367 := am (ho)
                           clear HO364
                           clear ho hb hg hat
                           refine hK.out _ _ ⟨cA BK353 0, cA BK351 0, cB HB hw380_0, cB HB hw380_1, cB HB hw380_2, cB HB hw380_3, cB HB hw380_4, cB HB hw380_5⟩ (fun hHeld => ?_)
                           clear hK K
                           refine nP ?_
                           exact nD (hJ3_5_7_9 (v363, v366, v369, v375) _ ⟨hHeld, (kr HO367), (by (with_reducible repeat (first | apply Kd.R_alloc | apply Kd.R_drewN | apply Kd.R_drew)); exact Kd.R_mono HO370.out (fun _ hk => hk.2)), (kr HO376), (kb BK351), (kb BK352), (kb BK353), (be HB)⟩)
                          refine Kd.R_lit_step k48 _ 48 ?hg (N := 49) ?hd (xs := ([(⟨(⟨(rd_T48 l4_0 x10_2).f0.f0, (rd_T48 l4_0 x10_2).f0.f1⟩ : S46), (rd_T48 l4_0 x10_2).f1, (rd_T48 l4_0 x10_2).f2, (rd_T48 l4_0 x10_2).f3, (rd_T48 l4_0 x10_2).f4⟩ : S48)] : List (S48))) (inner := [.int .i8 ((rd_T48 l4_0 x10_2).f0.f0), .int .i8 ((rd_T48 l4_0 x10_2).f0.f1), .int .i8 ((rd_T48 l4_0 x10_2).f1), .int .i8 ((rd_T48 l4_0 x10_2).f2), .int .i8 ((rd_T48 l4_0 x10_2).f3), .int .i8 ((rd_T48 l4_0 x10_2).f4)]) (ok := fun _ => True) (okp := fun _ => True) ?hr ?hp (fun _ hk => hk) trivial (Below.refl _ _) (Nat.le_refl _) (by simp) ?_; (case hd => rfl); (case hg => rfl); (case hr => first | (go_simp; done) | (go_simp; rfl)); (case hp => exact (Reps.c6 (show Kd.M k48 _ _ _ (⟨(⟨(rd_T48 l4_0 x10_2).f0.f0, (rd_T48 l4_0 x10_2).f0.f1⟩ : S46), (rd_T48 l4_0 x10_2).f1, (rd_T48 l4_0 x10_2).f2, (rd_T48 l4_0 x10_2).f3, (rd_T48 l4_0 x10_2).f4⟩ : S48) [.int .i8 ((rd_T48 l4_0 x10_2).f0.f0), .int .i8 ((rd_T48 l4_0 x10_2).f0.f1), .int .i8 ((rd_T48 l4_0 x10_2).f1), .int .i8 ((rd_T48 l4_0 x10_2).f2), .int .i8 ((rd_T48 l4_0 x10_2).f3), .int .i8 ((rd_T48 l4_0 x10_2).f4)] from (k48_mkM _ _ _ (⟨(⟨(rd_T48 l4_0 x10_2).f0.f0, (rd_T48 l4_0 x10_2).f0.f1⟩ : S46), (rd_T48 l4_0 x10_2).f1, (rd_T48 l4_0 x10_2).f2, (rd_T48 l4_0 x10_2).f3, (rd_T48 l4_0 x10_2).f4⟩ : S48) )) (Reps.none _ _)))
                          intro v382 w39 ho40 hb hg_ hnew_
                          clear hg_ hnew_
                          (first | rw [← Ny381.out] at ho40 | (simp only [Int.reduceToNat] at ho40; rw [← Ny381.out] at ho40))
                          replace HO364 := am (Kd.R_below (kr HO364) hb)
                          replace HO370 := am (Kd.R_below (kr HO370) hb)
                          have HO383 := am (Kd.R_lower (Kd.R_new' ho40 (Kd.R_lt (kr HO376))) (below_size (be HB)))
                          replace HO376 := am (Kd.R_elder' (kr HO376) (Kd.R_base ho40) hb)
                          replace BK351 := bB BK351 hb
                          replace BK352 := bB BK352 hb
                          replace BK353 := bB BK353 hb
                          replace HB := am (below_step (be HB) hb)
                          clear hb ho40
                          refine hK.out _ _ ⟨cA BK353 0, cA BK351 0, cB HB hw380_0, cB HB hw380_1, cB HB hw380_2, cB HB hw380_3, cB HB hw380_4, cB HB hw380_5⟩ (fun hHeld => ?_)
                          clear hK K
                          refine nP ?_
                          exact nD (hJ3_7_9_16 (v363, v369, v375, v382) _ ⟨hHeld, (kr HO364), (kr HO370), (by (with_reducible repeat (first | apply Kd.R_alloc | apply Kd.R_drewN | apply Kd.R_drew)); exact Kd.R_mono HO376.out (fun _ hk => hk.2)), (by (with_reducible repeat (first | apply Kd.R_alloc | apply Kd.R_drewN | apply Kd.R_drew)); exact Kd.R_mono HO383.out (fun _ hk => hk.2)), (kb BK351), (kb BK352), (kb BK353), (be HB)⟩)
                         rintro ⟨v363, v366, v382⟩ w37 ⟨hS_, h0_, h1_, h2_, h3_, h4_, h5_⟩
                         have HO367 : Aside0 (Kd.R (Kd.int .i64) 2 w37 w.heap.size (fun _ => True) v366 y365) := ⟨h0_⟩
                         have HO383 : Aside0 (Kd.R k48 48 w37 w.heap.size (fun _ => True) v382 y381) := ⟨h1_⟩
                         replace BK351 : Aside0 (w37.heap[gl]? = some (.cells #[.slice (some ad360) l4_0.length c4_0] 34 (0, 0))) := ⟨h2_⟩
                         replace BK352 : Aside0 (w37.heap[gy]? = some (.cells (csBay a5_0 a5_1 a5_2) 32 (0, 0))) := ⟨h3_⟩
                         replace BK353 : Aside0 (w37.heap[gs]? = some (.cells #[fvS gb gl gy gs] 54 (0, 0))) := ⟨h4_⟩
                         replace HB : Aside0 (Below w.heap.size w w37) := ⟨h5_⟩
                         clear h0_ h1_ h2_ h3_ h4_ h5_
                         have hHeld : Hd gb gl gy gs ad360 l4_0 c4_0 x10_2 w37 := hS_
                         refine nQ ?_
                         refine two_ (i := 7) (j := 9) (Ni := some 40) (Nj := some 42) #[true, true, true, true, true, true, true, true, false, false, true, false, true, true, true, true, true, false, false] #[true, true, true, true, true, true, true, false, false, true, true, false, true, true, true, true, true, false, false] rfl rfl rfl rfl (two_of HT_.out (by kernel_rfl)) (by decide) (by decide) (fun K hK => ?_) (fun K hK => ?_)
                         ·skip
                          refine Kd.R_lit_step (Kd.int .i64) _ 2 ?hg (N := 40) ?hd (xs := ([x10_2] : List Int)) (inner := [.int .i64 x10_2]) (ok := fun _ => True) (okp := fun _ => True) ?hr ?hp (fun _ hk => hk) trivial (Below.refl _ _) (Nat.le_refl _) (by simp) ?_; (case hd => rfl); (case hg => rfl); (case hr => first | (go_simp; done) | (go_simp; rfl)); (case hp => exact (Reps.one (show Kd.M (Kd.int .i64) _ _ _ x10_2 [.int .i64 x10_2] from rfl) (Reps.none _ _)))
                          intro v369 w38 ho39 hb hg_ hnew_
                          clear hg_ hnew_
                          (first | rw [← Ny368.out] at ho39 | (simp only [Int.reduceToNat] at ho39; rw [← Ny368.out] at ho39))
                          replace HO383 := am (Kd.R_below (kr HO383) hb)
                          have HO370 := am (Kd.R_lower (Kd.R_new' ho39 (Kd.R_lt (kr HO367))) (below_size (be HB)))
                          replace HO367 := am (Kd.R_elder' (kr HO367) (Kd.R_base ho39) hb)
                          replace BK351 := bB BK351 hb
                          replace BK352 := bB BK352 hb
                          replace BK353 := bB BK353 hb
                          replace HB := am (below_step (be HB) hb)
                          clear hb ho39
                          refine hK.out _ _ ⟨cA BK353 0, cA BK351 0, cB HB hw380_0, cB HB hw380_1, cB HB hw380_2, cB HB hw380_3, cB HB hw380_4, cB HB hw380_5⟩ (fun hHeld => ?_)
                          clear hK K
                          refine nP ?_
                          exact nD (hJ3_5_7_16 (v363, v366, v369, v382) _ ⟨hHeld, (by (with_reducible repeat (first | apply Kd.R_alloc | apply Kd.R_drewN | apply Kd.R_drew)); exact Kd.R_mono HO367.out (fun _ hk => hk.2)), (by (with_reducible repeat (first | apply Kd.R_alloc | apply Kd.R_drewN | apply Kd.R_drew)); exact Kd.R_mono HO370.out (fun _ hk => hk.2)), (kr HO383), (kb BK351), (kb BK352), (kb BK353), (be HB)⟩)
                         refine Kd.R_lit_step k48 _ 48 ?hg (N := 42) ?hd (xs := ([] : List (S48))) (inner := []) (ok := fun _ => True) (okp := fun _ => True) ?hr ?hp (fun _ hk => hk) trivial (Below.refl _ _) (Nat.le_refl _) (by simp) ?_; (case hd => rfl); (case hg => rfl); (case hr => first | (go_simp; done) | (go_simp; rfl)); (case hp => exact (Reps.none _ _))
                         intro v375 w38 ho39 hb hg_ hnew_
                         clear hg_ hnew_
                         (first | rw [← Ny374.out] at ho39 | (simp only [Int.reduceToNat] at ho39; rw [← Ny374.out] at ho39))
                         replace HO367 := am (Kd.R_below (kr HO367) hb)
                         have HO376 := am (Kd.R_lower (Kd.R_new' ho39 (Kd.R_lt (kr HO383))) (below_size (be HB)))
                         replace HO383 := am (Kd.R_elder' (kr HO383) (Kd.R_base ho39) hb)
                         replace BK351 := bB BK351 hb
                         replace BK352 := bB BK352 hb
                         replace BK353 := bB BK353 hb
                         replace HB := am (below_step (be HB) hb)
                         clear hb ho39
                         refine hK.out _ _ ⟨cA BK353 0, cA BK351 0, cB HB hw380_0, cB HB hw380_1, cB HB hw380_2, cB HB hw380_3, cB HB hw380_4, cB HB hw380_5⟩ (fun hHeld => ?_)
                         clear hK K
                         refine nP ?_
                         exact nD (hJ3_5_9_16 (v363, v366, v375, v382) _ ⟨hHeld, (kr HO367), (by (with_reducible repeat (first | apply Kd.R_alloc | apply Kd.R_drewN | apply Kd.R_drew)); exact Kd.R_mono HO376.out (fun _ hk => hk.2)), (by (with_reducible repeat (first | apply Kd.R_alloc | apply Kd.R_drewN | apply Kd.R_drew)); exact Kd.R_mono HO383.out (fun _ hk => hk.2)), (kb BK351), (kb BK352), (kb BK353), (be HB)⟩)
                        rintro ⟨v363, v366, v375⟩ w37 ⟨hS_, h0_, h1_, h2_, h3_, h4_, h5_⟩
                        have HO367 : Aside0 (Kd.R (Kd.int .i64) 2 w37 w.heap.size (fun _ => True) v366 y365) := ⟨h0_⟩
                        have HO376 : Aside0 (Kd.R k48 48 w37 w.heap.size (fun _ => True) v375 y374) := ⟨h1_⟩
                        replace BK351 : Aside0 (w37.heap[gl]? = some (.cells #[.slice (some ad360) l4_0.length c4_0] 34 (0, 0))) := ⟨h2_⟩
                        replace BK352 : Aside0 (w37.heap[gy]? = some (.cells (csBay a5_0 a5_1 a5_2) 32 (0, 0))) := ⟨h3_⟩
                        replace BK353 : Aside0 (w37.heap[gs]? = some (.cells #[fvS gb gl gy gs] 54 (0, 0))) := ⟨h4_⟩
                        replace HB : Aside0 (Below w.heap.size w w37) := ⟨h5_⟩
                        clear h0_ h1_ h2_ h3_ h4_ h5_
                        have hHeld : Hd gb gl gy gs ad360 l4_0 c4_0 x10_2 w37 := hS_
                        refine nQ ?_
                        refine two_ (i := 7) (j := 16) (Ni := some 40) (Nj := some 49) #[true, true, true, true, true, true, true, true, false, true, true, false, true, true, true, true, false, false, false] #[true, true, true, true, true, true, true, false, false, true, true, false, true, true, true, true, true, false, false] rfl rfl rfl rfl (two_of HT_.out (by kernel_rfl)) (by decide) (by decide) (fun K hK => ?_) (fun K hK => ?_)
                        ·skip
                         refine Kd.R_lit_step (Kd.int .i64) _ 2 ?hg (N := 40) ?hd (xs := ([x10_2] : List Int)) (inner := [.int .i64 x10_2]) (ok := fun _ => True) (okp := fun _ => True) ?hr ?hp (fun _ hk => hk) trivial (Below.refl _ _) (Nat.le_refl _) (by simp) ?_; (case hd => rfl); (case hg => rfl); (case hr => first | (go_simp; done) | (go_simp; rfl)); (case hp => exact (Reps.one (show Kd.M (Kd.int .i64) _ _ _ x10_2 [.int .i64 x10_2] from rfl) (Reps.none _ _)))
                         intro v369 w38 ho39 hb hg_ hnew_
                         clear hg_ hnew_
                         (first | rw [← Ny368.out] at ho39 | (simp only [Int.reduceToNat] at ho39; rw [← Ny368.out] at ho39))
                         replace HO376 := am (Kd.R_below (kr HO376) hb)
                         have HO370 := am (Kd.R_lower (Kd.R_new' ho39 (Kd.R_lt (kr HO367))) (below_size (be HB)))
                         replace HO367 := am (Kd.R_elder' (kr HO367) (Kd.R_base ho39) hb)
                         replace BK351 := bB BK351 hb
                         replace BK352 := bB BK352 hb
                         replace BK353 := bB BK353 hb
                         replace HB := am (below_step (be HB) hb)
                         clear hb ho39
                         refine hK.out _ _ ⟨cA BK353 0, cA BK351 0, cB HB hw380_0, cB HB hw380_1, cB HB hw380_2, cB HB hw380_3, cB HB hw380_4, cB HB hw380_5⟩ (fun hHeld => ?_)
                         clear hK K
                         refine nP ?_
                         exact nD (hJ3_5_7_9 (v363, v366, v369, v375) _ ⟨hHeld, (by (with_reducible repeat (first | apply Kd.R_alloc | apply Kd.R_drewN | apply Kd.R_drew)); exact Kd.R_mono HO367.out (fun _ hk => hk.2)), (by (with_reducible repeat (first | apply Kd.R_alloc | apply Kd.R_drewN | apply Kd.R_drew)); exact Kd.R_mono HO370.out (fun _ hk => hk.2)), (kr HO376), (kb BK351), (kb BK352), (kb BK353), (be HB)⟩)
                        refine Kd.R_lit_step k48 _ 48 ?hg (N := 49) ?hd (xs := ([(⟨(⟨(rd_T48 l4_0 x10_2).f0.f0, (rd_T48 l4_0 x10_2).f0.f1⟩ : S46), (rd_T48 l4_0 x10_2).f1, (rd_T48 l4_0 x10_2).f2, (rd_T48 l4_0 x10_2).f3, (rd_T48 l4_0 x10_2).f4⟩ : S48)] : List (S48))) (inner := [.int .i8 ((rd_T48 l4_0 x10_2).f0.f0), .int .i8 ((rd_T48 l4_0 x10_2).f0.f1), .int .i8 ((rd_T48 l4_0 x10_2).f1), .int .i8 ((rd_T48 l4_0 x10_2).f2), .int .i8 ((rd_T48 l4_0 x10_2).f3), .int .i8 ((rd_T48 l4_0 x10_2).f4)]) (ok := fun _ => True) (okp := fun _ => True) ?hr ?hp (fun _ hk => hk) trivial (Below.refl _ _) (Nat.le_refl _) (by simp) ?_; (case hd => rfl); (case hg => rfl); (case hr => first | (go_simp; done) | (go_simp; rfl)); (case hp => exact (Reps.c6 (show Kd.M k48 _ _ _ (⟨(⟨(rd_T48 l4_0 x10_2).f0.f0, (rd_T48 l4_0 x10_2).f0.f1⟩ : S46), (rd_T48 l4_0 x10_2).f1, (rd_T48 l4_0 x10_2).f2, (rd_T48 l4_0 x10_2).f3, (rd_T48 l4_0 x10_2).f4⟩ : S48) [.int .i8 ((rd_T48 l4_0 x10_2).f0.f0), .int .i8 ((rd_T48 l4_0 x10_2).f0.f1), .int .i8 ((rd_T48 l4_0 x10_2).f1), .int .i8 ((rd_T48 l4_0 x10_2).f2), .int .i8 ((rd_T48 l4_0 x10_2).f3), .int .i8 ((rd_T48 l4_0 x10_2).f4)] from (k48_mkM _ _ _ (⟨(⟨(rd_T48 l4_0 x10_2).f0.f0, (rd_T48 l4_0 x10_2).f0.f1⟩ : S46), (rd_T48 l4_0 x10_2).f1, (rd_T48 l4_0 x10_2).f2, (rd_T48 l4_0 x10_2).f3, (rd_T48 l4_0 x10_2).f4⟩ : S48) )) (Reps.none _ _)))
                        intro v382 w38 ho39 hb hg_ hnew_
                        clear hg_ hnew_
                        (first | rw [← Ny381.out] at ho39 | (simp only [Int.reduceToNat] at ho39; rw [← Ny381.out] at ho39))
                        replace HO367 := am (Kd.R_below (kr HO367) hb)
                        have HO383 := am (Kd.R_lower (Kd.R_new' ho39 (Kd.R_lt (kr HO376))) (below_size (be HB)))
                        replace HO376 := am (Kd.R_elder' (kr HO376) (Kd.R_base ho39) hb)
                        replace BK351 := bB BK351 hb
                        replace BK352 := bB BK352 hb
                        replace BK353 := bB BK353 hb
                        replace HB := am (below_step (be HB) hb)
                        clear hb ho39
                        refine hK.out _ _ ⟨cA BK353 0, cA BK351 0, cB HB hw380_0, cB HB hw380_1, cB HB hw380_2, cB HB hw380_3, cB HB hw380_4, cB HB hw380_5⟩ (fun hHeld => ?_)
                        clear hK K
                        refine nP ?_
                        exact nD (hJ3_5_9_16 (v363, v366, v375, v382) _ ⟨hHeld, (kr HO367), (by (with_reducible repeat (first | apply Kd.R_alloc | apply Kd.R_drewN | apply Kd.R_drew)); exact Kd.R_mono HO376.out (fun _ hk => hk.2)), (by (with_reducible repeat (first | apply Kd.R_alloc | apply Kd.R_drewN | apply Kd.R_drew)); exact Kd.R_mono HO383.out (fun _ hk => hk.2)), (kb BK351), (kb BK352), (kb BK353), (be HB)⟩)
                       rintro ⟨v363, v366, v369⟩ w37 ⟨hS_, h0_, h1_, h2_, h3_, h4_, h5_⟩
                       have HO367 : Aside0 (Kd.R (Kd.int .i64) 2 w37 w.heap.size (fun k_ => some k_ ≠ (v369 : Value).ownBlock) v366 y365) := ⟨h0_⟩
                       have HO370 : Aside0 (Kd.R (Kd.int .i64) 2 w37 w.heap.size (fun k_ => some k_ ≠ (v366 : Value).ownBlock) v369 y368) := ⟨h1_⟩
                       replace BK351 : Aside0 (w37.heap[gl]? = some (.cells #[.slice (some ad360) l4_0.length c4_0] 34 (0, 0))) := ⟨h2_⟩
                       replace BK352 : Aside0 (w37.heap[gy]? = some (.cells (csBay a5_0 a5_1 a5_2) 32 (0, 0))) := ⟨h3_⟩
                       replace BK353 : Aside0 (w37.heap[gs]? = some (.cells #[fvS gb gl gy gs] 54 (0, 0))) := ⟨h4_⟩
                       replace HB : Aside0 (Below w.heap.size w w37) := ⟨h5_⟩
                       clear h0_ h1_ h2_ h3_ h4_ h5_
                       have hHeld : Hd gb gl gy gs ad360 l4_0 c4_0 x10_2 w37 := hS_
                       refine nQ ?_
                       refine three_ (i := 8) (j := 9) (k := 16) (Ni := some 41) (Nj := some 42) (Nk := some 49) #[true, true, true, true, true, true, true, true, true, false, true, false, true, true, true, true, false, false, false] #[true, true, true, true, true, true, true, true, false, true, true, false, true, true, true, true, false, false, false] #[true, true, true, true, true, true, true, true, false, false, true, false, true, true, true, true, true, false, false] rfl rfl rfl rfl rfl rfl (three_of HT_.out (by kernel_rfl)) (by decide) (by decide) (by decide) (fun K hK => ?_) (fun K hK => ?_) (fun K hK => ?_)
                       ·skip
                        obtain ⟨Ao39, co39, eo39⟩ := Kd.R_slice HO370.out
                        (first | subst eo39 | (injection eo39 with f1_ f2_ f3_; have f4_ := f1_.symm; have f5_ := f3_.symm; clear f1_ f2_ f3_; subst f4_; subst f5_))
                        refine Kd.R_append_rows_step (Kd.int .i64) (w0 := w) w.heap.size (by rfl) (.tmp 38) (.tmp 40) 29 2 (.int .i64 0) 8 rfl Try.underlying29 info2 rfl (by decide) (by omega) v366 y365 y368 _ _ _ (fun k_ => some k_ ≠ (.slice Ao39 y368.length co39 : Value).ownBlock) (fun _ => False) rfl rfl ?aO ?aR (fun _ _ h => h) (fun _ h => h.elim) ?aF ?aB ?aS ?aL ?_
                        (case aR => repeat (first | exact (Kd.R_reads' HO370.out).2.2 | (with_reducible refine Kd.C_alloc ?_ _) | (with_reducible refine Kd.C_drewN ?_ _) | (with_reducible refine Kd.C_drew ?_)))
                        (case aB => exact (be HB))
                        (case aF => exact (fun k_ hk => Kd.fresh' (Kd.R_lt (kr HO370)) k_ hk))
                        (case aO => exact (kr HO367))
                        (case aS => exact (below_size (be HB)))
                        (case aL => have := LMc22.out; omega)
                        intro v372 w38 ho hb hg hat
                        rw [← Ny371.out] at ho
                        replace BK351 := am (blk_grown (g := gl) (o := .cells #[.slice (some ad360) l4_0.length c4_0] 34 (0, 0)) (kb BK351) hg (Kd.R_ne HO367.out BK351.out (by decide)))
                        replace BK352 := am (blk_grown (g := gy) (o := .cells (csBay a5_0 a5_1 a5_2) 32 (0, 0)) (kb BK352) hg (Kd.R_ne HO367.out BK352.out (by decide)))
                        replace BK353 := am (blk_grown (g := gs) (o := .cells #[fvS gb gl gy gs] 54 (0, 0)) (kb BK353) hg (Kd.R_ne HO367.out BK353.out (by decide)))
                        replace HO370 := am (Kd.R_after (ok := (fun _ => True)) (by (with_reducible repeat (first | apply Kd.R_alloc | apply Kd.R_drewN | apply Kd.R_drew)); exact Kd.R_mono HO370.out (fun _ hk => ⟨trivial, hk⟩)) hg hat)
                        replace HB := am (hb)
                        have HO373 := am (ho)
                        clear HO367
                        clear ho hb hg hat
                        refine hK.out _ _ ⟨cA BK353 0, cA BK351 0, cB HB hw380_0, cB HB hw380_1, cB HB hw380_2, cB HB hw380_3, cB HB hw380_4, cB HB hw380_5⟩ (fun hHeld => ?_)
                        clear hK K
                        refine nP ?_
                        exact nD (hJ3_5_7_8 (v363, v366, .slice Ao39 y368.length co39, v372) _ ⟨hHeld, (by (with_reducible repeat (first | apply Kd.R_alloc | apply Kd.R_drewN | apply Kd.R_drew)); exact Kd.R_mono HO370.out (fun _ hk => hk.2)), (kr HO373), (kb BK351), (kb BK352), (kb BK353), (be HB)⟩)
                       ·skip
                        refine Kd.R_lit_step k48 _ 48 ?hg (N := 42) ?hd (xs := ([] : List (S48))) (inner := []) (ok := fun _ => True) (okp := fun _ => True) ?hr ?hp (fun _ hk => hk) trivial (Below.refl _ _) (Nat.le_refl _) (by simp) ?_; (case hd => rfl); (case hg => rfl); (case hr => first | (go_simp; done) | (go_simp; rfl)); (case hp => exact (Reps.none _ _))
                        intro v375 w38 ho39 hb hg_ hnew_
                        clear hg_ hnew_
                        (first | rw [← Ny374.out] at ho39 | (simp only [Int.reduceToNat] at ho39; rw [← Ny374.out] at ho39))
                        replace HO367 := am (Kd.R_below (kr HO367) hb)
                        replace HO370 := am (Kd.R_below (kr HO370) hb)
                        have HO376 := am (Kd.R_lower ho39 (below_size (be HB)))
                        replace BK351 := bB BK351 hb
                        replace BK352 := bB BK352 hb
                        replace BK353 := bB BK353 hb
                        replace HB := am (below_step (be HB) hb)
                        clear hb ho39
                        refine hK.out _ _ ⟨cA BK353 0, cA BK351 0, cB HB hw380_0, cB HB hw380_1, cB HB hw380_2, cB HB hw380_3, cB HB hw380_4, cB HB hw380_5⟩ (fun hHeld => ?_)
                        clear hK K
                        refine nP ?_
                        exact nD (hJ3_5_7_9 (v363, v366, v369, v375) _ ⟨hHeld, (kr HO367), (kr HO370), (kr HO376), (kb BK351), (kb BK352), (kb BK353), (be HB)⟩)
                       refine Kd.R_lit_step k48 _ 48 ?hg (N := 49) ?hd (xs := ([(⟨(⟨(rd_T48 l4_0 x10_2).f0.f0, (rd_T48 l4_0 x10_2).f0.f1⟩ : S46), (rd_T48 l4_0 x10_2).f1, (rd_T48 l4_0 x10_2).f2, (rd_T48 l4_0 x10_2).f3, (rd_T48 l4_0 x10_2).f4⟩ : S48)] : List (S48))) (inner := [.int .i8 ((rd_T48 l4_0 x10_2).f0.f0), .int .i8 ((rd_T48 l4_0 x10_2).f0.f1), .int .i8 ((rd_T48 l4_0 x10_2).f1), .int .i8 ((rd_T48 l4_0 x10_2).f2), .int .i8 ((rd_T48 l4_0 x10_2).f3), .int .i8 ((rd_T48 l4_0 x10_2).f4)]) (ok := fun _ => True) (okp := fun _ => True) ?hr ?hp (fun _ hk => hk) trivial (Below.refl _ _) (Nat.le_refl _) (by simp) ?_; (case hd => rfl); (case hg => rfl); (case hr => first | (go_simp; done) | (go_simp; rfl)); (case hp => exact (Reps.c6 (show Kd.M k48 _ _ _ (⟨(⟨(rd_T48 l4_0 x10_2).f0.f0, (rd_T48 l4_0 x10_2).f0.f1⟩ : S46), (rd_T48 l4_0 x10_2).f1, (rd_T48 l4_0 x10_2).f2, (rd_T48 l4_0 x10_2).f3, (rd_T48 l4_0 x10_2).f4⟩ : S48) [.int .i8 ((rd_T48 l4_0 x10_2).f0.f0), .int .i8 ((rd_T48 l4_0 x10_2).f0.f1), .int .i8 ((rd_T48 l4_0 x10_2).f1), .int .i8 ((rd_T48 l4_0 x10_2).f2), .int .i8 ((rd_T48 l4_0 x10_2).f3), .int .i8 ((rd_T48 l4_0 x10_2).f4)] from (k48_mkM _ _ _ (⟨(⟨(rd_T48 l4_0 x10_2).f0.f0, (rd_T48 l4_0 x10_2).f0.f1⟩ : S46), (rd_T48 l4_0 x10_2).f1, (rd_T48 l4_0 x10_2).f2, (rd_T48 l4_0 x10_2).f3, (rd_T48 l4_0 x10_2).f4⟩ : S48) )) (Reps.none _ _)))
                       intro v382 w38 ho39 hb hg_ hnew_
                       clear hg_ hnew_
                       (first | rw [← Ny381.out] at ho39 | (simp only [Int.reduceToNat] at ho39; rw [← Ny381.out] at ho39))
                       replace HO367 := am (Kd.R_below (kr HO367) hb)
                       replace HO370 := am (Kd.R_below (kr HO370) hb)
                       have HO383 := am (Kd.R_lower ho39 (below_size (be HB)))
                       replace BK351 := bB BK351 hb
                       replace BK352 := bB BK352 hb
                       replace BK353 := bB BK353 hb
                       replace HB := am (below_step (be HB) hb)
                       clear hb ho39
                       refine hK.out _ _ ⟨cA BK353 0, cA BK351 0, cB HB hw380_0, cB HB hw380_1, cB HB hw380_2, cB HB hw380_3, cB HB hw380_4, cB HB hw380_5⟩ (fun hHeld => ?_)
                       clear hK K
                       refine nP ?_
                       exact nD (hJ3_5_7_16 (v363, v366, v369, v382) _ ⟨hHeld, (kr HO367), (kr HO370), (kr HO383), (kb BK351), (kb BK352), (kb BK353), (be HB)⟩)
                      rintro ⟨v363, v369, v375, v382⟩ w40 ⟨hS_, h0_, h1_, h2_, h3_, h4_, h5_, h6_, h7_⟩
                      have HO364 : Aside0 (Kd.R (Kd.int .i64) 2 w40 w.heap.size (fun k_ => some k_ ≠ (v369 : Value).ownBlock) v363 y362) := ⟨h0_⟩
                      have HO370 : Aside0 (Kd.R (Kd.int .i64) 2 w40 w.heap.size (fun k_ => some k_ ≠ (v363 : Value).ownBlock) v369 y368) := ⟨h1_⟩
                      have HO376 : Aside0 (Kd.R k48 48 w40 w.heap.size (fun k_ => some k_ ≠ (v382 : Value).ownBlock) v375 y374) := ⟨h2_⟩
                      have HO383 : Aside0 (Kd.R k48 48 w40 w.heap.size (fun k_ => some k_ ≠ (v375 : Value).ownBlock) v382 y381) := ⟨h3_⟩
                      replace BK351 : Aside0 (w40.heap[gl]? = some (.cells #[.slice (some ad360) l4_0.length c4_0] 34 (0, 0))) := ⟨h4_⟩
                      replace BK352 : Aside0 (w40.heap[gy]? = some (.cells (csBay a5_0 a5_1 a5_2) 32 (0, 0))) := ⟨h5_⟩
                      replace BK353 : Aside0 (w40.heap[gs]? = some (.cells #[fvS gb gl gy gs] 54 (0, 0))) := ⟨h6_⟩
                      replace HB : Aside0 (Below w.heap.size w w40) := ⟨h7_⟩
                      clear h0_ h1_ h2_ h3_ h4_ h5_ h6_ h7_
                      have hHeld : Hd gb gl gy gs ad360 l4_0 c4_0 x10_2 w40 := hS_
                      refine nQ ?_
                      refine one_ (i := 5) (N := some 38) #[true, true, true, true, true, true, true, true, false, true, true, false, true, true, true, true, true, false, false] rfl rfl (one_of HT_.out (by kernel_rfl)) (by decide) (fun K hK => ?_)
                      refine Kd.R_append_rows_step (Kd.int .i64) (w0 := w) w.heap.size (by rfl) (.tmp 36) (.tmp 37) 29 2 (.int .i64 0) 8 rfl Try.underlying29 info2 rfl (by decide) (by omega) v363 y362 l1 _ _ _ (fun k_ => some k_ ≠ (v369 : Value).ownBlock) (fun _ => False) rfl rfl ?aO ?aR (fun _ _ h => h) (fun _ h => h.elim) ?aF ?aB ?aS ?aL ?_
                      (case aR => repeat (first | exact (Kd.C_below HR1.out HB.out) | (with_reducible refine Kd.C_alloc ?_ _) | (with_reducible refine Kd.C_drewN ?_ _) | (with_reducible refine Kd.C_drew ?_)))
                      (case aB => exact (be HB))
                      (case aF => exact (fun k_ hk => Kd.fresh' (Kd.R_lt (kr HO370)) k_ hk))
                      (case aO => exact (kr HO364))
                      (case aS => exact (below_size (be HB)))
                      (case aL => have := LMc21.out; omega)
                      intro v366 w41 ho hb hg hat
                      rw [← Ny365.out] at ho
                      replace BK351 := am (blk_grown (g := gl) (o := .cells #[.slice (some ad360) l4_0.length c4_0] 34 (0, 0)) (kb BK351) hg (Kd.R_ne HO364.out BK351.out (by decide)))
                      replace BK352 := am (blk_grown (g := gy) (o := .cells (csBay a5_0 a5_1 a5_2) 32 (0, 0)) (kb BK352) hg (Kd.R_ne HO364.out BK352.out (by decide)))
                      replace BK353 := am (blk_grown (g := gs) (o := .cells #[fvS gb gl gy gs] 54 (0, 0)) (kb BK353) hg (Kd.R_ne HO364.out BK353.out (by decide)))
                      replace HO370 := am (Kd.R_after (ok := (fun _ => True)) (by (with_reducible repeat (first | apply Kd.R_alloc | apply Kd.R_drewN | apply Kd.R_drew)); exact Kd.R_mono HO370.out (fun _ hk => ⟨trivial, hk⟩)) hg hat)
                      replace HO376 := am (Kd.R_over' (kr HO376) (Kd.R_typed (kr HO364)) (by decide) hg)
                      replace HO383 := am (Kd.R_over' (kr HO383) (Kd.R_typed (kr HO364)) (by decide) hg)
                      replace HB := am (hb)
                      have HO367 := am (ho)
                      clear HO364
                      clear ho hb hg hat
                      refine hK.out _ _ ⟨cA BK353 0, cA BK351 0, cB HB hw380_0, cB HB hw380_1, cB HB hw380_2, cB HB hw380_3, cB HB hw380_4, cB HB hw380_5⟩ (fun hHeld => ?_)
                      clear hK K
                      refine nP ?_
                      exact nD (hJ3_5_7_9_16 (v363, v366, v369, v375, v382) _ ⟨hHeld, (kr HO367), (by (with_reducible repeat (first | apply Kd.R_alloc | apply Kd.R_drewN | apply Kd.R_drew)); exact Kd.R_mono HO370.out (fun _ hk => hk.2)), (kr HO376), (kr HO383), (kb BK351), (kb BK352), (kb BK353), (be HB)⟩)
                     rintro ⟨v363, v366, v375, v382⟩ w39 ⟨hS_, h0_, h1_, h2_, h3_, h4_, h5_, h6_⟩
                     have HO367 : Aside0 (Kd.R (Kd.int .i64) 2 w39 w.heap.size (fun _ => True) v366 y365) := ⟨h0_⟩
                     have HO376 : Aside0 (Kd.R k48 48 w39 w.heap.size (fun k_ => some k_ ≠ (v382 : Value).ownBlock) v375 y374) := ⟨h1_⟩
                     have HO383 : Aside0 (Kd.R k48 48 w39 w.heap.size (fun k_ => some k_ ≠ (v375 : Value).ownBlock) v382 y381) := ⟨h2_⟩
                     replace BK351 : Aside0 (w39.heap[gl]? = some (.cells #[.slice (some ad360) l4_0.length c4_0] 34 (0, 0))) := ⟨h3_⟩
                     replace BK352 : Aside0 (w39.heap[gy]? = some (.cells (csBay a5_0 a5_1 a5_2) 32 (0, 0))) := ⟨h4_⟩
                     replace BK353 : Aside0 (w39.heap[gs]? = some (.cells #[fvS gb gl gy gs] 54 (0, 0))) := ⟨h5_⟩
                     replace HB : Aside0 (Below w.heap.size w w39) := ⟨h6_⟩
                     clear h0_ h1_ h2_ h3_ h4_ h5_ h6_
                     have hHeld : Hd gb gl gy gs ad360 l4_0 c4_0 x10_2 w39 := hS_
                     refine nQ ?_
                     refine one_ (i := 7) (N := some 40) #[true, true, true, true, true, true, true, true, false, true, true, false, true, true, true, true, true, false, false] rfl rfl (one_of HT_.out (by kernel_rfl)) (by decide) (fun K hK => ?_)
                     refine Kd.R_lit_step (Kd.int .i64) _ 2 ?hg (N := 40) ?hd (xs := ([x10_2] : List Int)) (inner := [.int .i64 x10_2]) (ok := fun _ => True) (okp := fun _ => True) ?hr ?hp (fun _ hk => hk) trivial (Below.refl _ _) (Nat.le_refl _) (by simp) ?_; (case hd => rfl); (case hg => rfl); (case hr => first | (go_simp; done) | (go_simp; rfl)); (case hp => exact (Reps.one (show Kd.M (Kd.int .i64) _ _ _ x10_2 [.int .i64 x10_2] from rfl) (Reps.none _ _)))
                     intro v369 w40 ho41 hb hg_ hnew_
                     clear hg_ hnew_
                     (first | rw [← Ny368.out] at ho41 | (simp only [Int.reduceToNat] at ho41; rw [← Ny368.out] at ho41))
                     replace HO376 := am (Kd.R_below (kr HO376) hb)
                     replace HO383 := am (Kd.R_below (kr HO383) hb)
                     have HO370 := am (Kd.R_lower (Kd.R_new' ho41 (Kd.R_lt (kr HO367))) (below_size (be HB)))
                     replace HO367 := am (Kd.R_elder' (kr HO367) (Kd.R_base ho41) hb)
                     replace BK351 := bB BK351 hb
                     replace BK352 := bB BK352 hb
                     replace BK353 := bB BK353 hb
                     replace HB := am (below_step (be HB) hb)
                     clear hb ho41
                     refine hK.out _ _ ⟨cA BK353 0, cA BK351 0, cB HB hw380_0, cB HB hw380_1, cB HB hw380_2, cB HB hw380_3, cB HB hw380_4, cB HB hw380_5⟩ (fun hHeld => ?_)
                     clear hK K
                     refine nP ?_
                     exact nD (hJ3_5_7_9_16 (v363, v366, v369, v375, v382) _ ⟨hHeld, (by (with_reducible repeat (first | apply Kd.R_alloc | apply Kd.R_drewN | apply Kd.R_drew)); exact Kd.R_mono HO367.out (fun _ hk => hk.2)), (by (with_reducible repeat (first | apply Kd.R_alloc | apply Kd.R_drewN | apply Kd.R_drew)); exact Kd.R_mono HO370.out (fun _ hk => hk.2)), (kr HO376), (kr HO383), (kb BK351), (kb BK352), (kb BK353), (be HB)⟩)
                    rintro ⟨v363, v366, v369, v382⟩ w39 ⟨hS_, h0_, h1_, h2_, h3_, h4_, h5_, h6_⟩
                    have HO367 : Aside0 (Kd.R (Kd.int .i64) 2 w39 w.heap.size (fun k_ => some k_ ≠ (v369 : Value).ownBlock) v366 y365) := ⟨h0_⟩
                    have HO370 : Aside0 (Kd.R (Kd.int .i64) 2 w39 w.heap.size (fun k_ => some k_ ≠ (v366 : Value).ownBlock) v369 y368) := ⟨h1_⟩
                    have HO383 : Aside0 (Kd.R k48 48 w39 w.heap.size (fun _ => True) v382 y381) := ⟨h2_⟩
                    replace BK351 : Aside0 (w39.heap[gl]? = some (.cells #[.slice (some ad360) l4_0.length c4_0] 34 (0, 0))) := ⟨h3_⟩
                    replace BK352 : Aside0 (w39.heap[gy]? = some (.cells (csBay a5_0 a5_1 a5_2) 32 (0, 0))) := ⟨h4_⟩
                    replace BK353 : Aside0 (w39.heap[gs]? = some (.cells #[fvS gb gl gy gs] 54 (0, 0))) := ⟨h5_⟩
                    replace HB : Aside0 (Below w.heap.size w w39) := ⟨h6_⟩
                    clear h0_ h1_ h2_ h3_ h4_ h5_ h6_
                    have hHeld : Hd gb gl gy gs ad360 l4_0 c4_0 x10_2 w39 := hS_
                    refine nQ ?_
                    refine two_ (i := 8) (j := 9) (Ni := some 41) (Nj := some 42) #[true, true, true, true, true, true, true, true, true, false, true, false, true, true, true, true, true, false, false] #[true, true, true, true, true, true, true, true, false, true, true, false, true, true, true, true, true, false, false] rfl rfl rfl rfl (two_of HT_.out (by kernel_rfl)) (by decide) (by decide) (fun K hK => ?_) (fun K hK => ?_)
                    ·skip
                     obtain ⟨Ao41, co41, eo41⟩ := Kd.R_slice HO370.out
                     (first | subst eo41 | (injection eo41 with f1_ f2_ f3_; have f4_ := f1_.symm; have f5_ := f3_.symm; clear f1_ f2_ f3_; subst f4_; subst f5_))
                     refine Kd.R_append_rows_step (Kd.int .i64) (w0 := w) w.heap.size (by rfl) (.tmp 38) (.tmp 40) 29 2 (.int .i64 0) 8 rfl Try.underlying29 info2 rfl (by decide) (by omega) v366 y365 y368 _ _ _ (fun k_ => some k_ ≠ (.slice Ao41 y368.length co41 : Value).ownBlock) (fun _ => False) rfl rfl ?aO ?aR (fun _ _ h => h) (fun _ h => h.elim) ?aF ?aB ?aS ?aL ?_
                     (case aR => repeat (first | exact (Kd.R_reads' HO370.out).2.2 | (with_reducible refine Kd.C_alloc ?_ _) | (with_reducible refine Kd.C_drewN ?_ _) | (with_reducible refine Kd.C_drew ?_)))
                     (case aB => exact (be HB))
                     (case aF => exact (fun k_ hk => Kd.fresh' (Kd.R_lt (kr HO370)) k_ hk))
                     (case aO => exact (kr HO367))
                     (case aS => exact (below_size (be HB)))
                     (case aL => have := LMc22.out; omega)
                     intro v372 w40 ho hb hg hat
                     rw [← Ny371.out] at ho
                     replace BK351 := am (blk_grown (g := gl) (o := .cells #[.slice (some ad360) l4_0.length c4_0] 34 (0, 0)) (kb BK351) hg (Kd.R_ne HO367.out BK351.out (by decide)))
                     replace BK352 := am (blk_grown (g := gy) (o := .cells (csBay a5_0 a5_1 a5_2) 32 (0, 0)) (kb BK352) hg (Kd.R_ne HO367.out BK352.out (by decide)))
                     replace BK353 := am (blk_grown (g := gs) (o := .cells #[fvS gb gl gy gs] 54 (0, 0)) (kb BK353) hg (Kd.R_ne HO367.out BK353.out (by decide)))
                     replace HO370 := am (Kd.R_after (ok := (fun _ => True)) (by (with_reducible repeat (first | apply Kd.R_alloc | apply Kd.R_drewN | apply Kd.R_drew)); exact Kd.R_mono HO370.out (fun _ hk => ⟨trivial, hk⟩)) hg hat)
                     replace HO383 := am (Kd.R_over' (kr HO383) (Kd.R_typed (kr HO367)) (by decide) hg)
                     replace HB := am (hb)
                     have HO373 := am (ho)
                     clear HO367
                     clear ho hb hg hat
                     refine hK.out _ _ ⟨cA BK353 0, cA BK351 0, cB HB hw380_0, cB HB hw380_1, cB HB hw380_2, cB HB hw380_3, cB HB hw380_4, cB HB hw380_5⟩ (fun hHeld => ?_)
                     clear hK K
                     refine nP ?_
                     exact nD (hJ3_5_7_8_16 (v363, v366, .slice Ao41 y368.length co41, v372, v382) _ ⟨hHeld, (by (with_reducible repeat (first | apply Kd.R_alloc | apply Kd.R_drewN | apply Kd.R_drew)); exact Kd.R_mono HO370.out (fun _ hk => hk.2)), (kr HO373), (kr HO383), (kb BK351), (kb BK352), (kb BK353), (be HB)⟩)
                    refine Kd.R_lit_step k48 _ 48 ?hg (N := 42) ?hd (xs := ([] : List (S48))) (inner := []) (ok := fun _ => True) (okp := fun _ => True) ?hr ?hp (fun _ hk => hk) trivial (Below.refl _ _) (Nat.le_refl _) (by simp) ?_; (case hd => rfl); (case hg => rfl); (case hr => first | (go_simp; done) | (go_simp; rfl)); (case hp => exact (Reps.none _ _))
                    intro v375 w40 ho41 hb hg_ hnew_
                    clear hg_ hnew_
                    (first | rw [← Ny374.out] at ho41 | (simp only [Int.reduceToNat] at ho41; rw [← Ny374.out] at ho41))
                    replace HO367 := am (Kd.R_below (kr HO367) hb)
                    replace HO370 := am (Kd.R_below (kr HO370) hb)
                    have HO376 := am (Kd.R_lower (Kd.R_new' ho41 (Kd.R_lt (kr HO383))) (below_size (be HB)))
                    replace HO383 := am (Kd.R_elder' (kr HO383) (Kd.R_base ho41) hb)
                    replace BK351 := bB BK351 hb
                    replace BK352 := bB BK352 hb
                    replace BK353 := bB BK353 hb
                    replace HB := am (below_step (be HB) hb)
                    clear hb ho41
                    refine hK.out _ _ ⟨cA BK353 0, cA BK351 0, cB HB hw380_0, cB HB hw380_1, cB HB hw380_2, cB HB hw380_3, cB HB hw380_4, cB HB hw380_5⟩ (fun hHeld => ?_)
                    clear hK K
                    refine nP ?_
                    exact nD (hJ3_5_7_9_16 (v363, v366, v369, v375, v382) _ ⟨hHeld, (kr HO367), (kr HO370), (by (with_reducible repeat (first | apply Kd.R_alloc | apply Kd.R_drewN | apply Kd.R_drew)); exact Kd.R_mono HO376.out (fun _ hk => hk.2)), (by (with_reducible repeat (first | apply Kd.R_alloc | apply Kd.R_drewN | apply Kd.R_drew)); exact Kd.R_mono HO383.out (fun _ hk => hk.2)), (kb BK351), (kb BK352), (kb BK353), (be HB)⟩)
                   rintro ⟨v363, v366, v369, v375⟩ w39 ⟨hS_, h0_, h1_, h2_, h3_, h4_, h5_, h6_⟩
                   have HO367 : Aside0 (Kd.R (Kd.int .i64) 2 w39 w.heap.size (fun k_ => some k_ ≠ (v369 : Value).ownBlock) v366 y365) := ⟨h0_⟩
                   have HO370 : Aside0 (Kd.R (Kd.int .i64) 2 w39 w.heap.size (fun k_ => some k_ ≠ (v366 : Value).ownBlock) v369 y368) := ⟨h1_⟩
                   have HO376 : Aside0 (Kd.R k48 48 w39 w.heap.size (fun _ => True) v375 y374) := ⟨h2_⟩
                   replace BK351 : Aside0 (w39.heap[gl]? = some (.cells #[.slice (some ad360) l4_0.length c4_0] 34 (0, 0))) := ⟨h3_⟩
                   replace BK352 : Aside0 (w39.heap[gy]? = some (.cells (csBay a5_0 a5_1 a5_2) 32 (0, 0))) := ⟨h4_⟩
                   replace BK353 : Aside0 (w39.heap[gs]? = some (.cells #[fvS gb gl gy gs] 54 (0, 0))) := ⟨h5_⟩
                   replace HB : Aside0 (Below w.heap.size w w39) := ⟨h6_⟩
                   clear h0_ h1_ h2_ h3_ h4_ h5_ h6_
                   have hHeld : Hd gb gl gy gs ad360 l4_0 c4_0 x10_2 w39 := hS_
                   refine nQ ?_
                   refine two_ (i := 8) (j := 16) (Ni := some 41) (Nj := some 49) #[true, true, true, true, true, true, true, true, true, true, true, false, true, true, true, true, false, false, false] #[true, true, true, true, true, true, true, true, false, true, true, false, true, true, true, true, true, false, false] rfl rfl rfl rfl (two_of HT_.out (by kernel_rfl)) (by decide) (by decide) (fun K hK => ?_) (fun K hK => ?_)
                   ·skip
                    obtain ⟨Ao41, co41, eo41⟩ := Kd.R_slice HO370.out
                    (first | subst eo41 | (injection eo41 with f1_ f2_ f3_; have f4_ := f1_.symm; have f5_ := f3_.symm; clear f1_ f2_ f3_; subst f4_; subst f5_))
                    refine Kd.R_append_rows_step (Kd.int .i64) (w0 := w) w.heap.size (by rfl) (.tmp 38) (.tmp 40) 29 2 (.int .i64 0) 8 rfl Try.underlying29 info2 rfl (by decide) (by omega) v366 y365 y368 _ _ _ (fun k_ => some k_ ≠ (.slice Ao41 y368.length co41 : Value).ownBlock) (fun _ => False) rfl rfl ?aO ?aR (fun _ _ h => h) (fun _ h => h.elim) ?aF ?aB ?aS ?aL ?_
                    (case aR => repeat (first | exact (Kd.R_reads' HO370.out).2.2 | (with_reducible refine Kd.C_alloc ?_ _) | (with_reducible refine Kd.C_drewN ?_ _) | (with_reducible refine Kd.C_drew ?_)))
                    (case aB => exact (be HB))
                    (case aF => exact (fun k_ hk => Kd.fresh' (Kd.R_lt (kr HO370)) k_ hk))
                    (case aO => exact (kr HO367))
                    (case aS => exact (below_size (be HB)))
                    (case aL => have := LMc22.out; omega)
                    intro v372 w40 ho hb hg hat
                    rw [← Ny371.out] at ho
                    replace BK351 := am (blk_grown (g := gl) (o := .cells #[.slice (some ad360) l4_0.length c4_0] 34 (0, 0)) (kb BK351) hg (Kd.R_ne HO367.out BK351.out (by decide)))
                    replace BK352 := am (blk_grown (g := gy) (o := .cells (csBay a5_0 a5_1 a5_2) 32 (0, 0)) (kb BK352) hg (Kd.R_ne HO367.out BK352.out (by decide)))
                    replace BK353 := am (blk_grown (g := gs) (o := .cells #[fvS gb gl gy gs] 54 (0, 0)) (kb BK353) hg (Kd.R_ne HO367.out BK353.out (by decide)))
                    replace HO370 := am (Kd.R_after (ok := (fun _ => True)) (by (with_reducible repeat (first | apply Kd.R_alloc | apply Kd.R_drewN | apply Kd.R_drew)); exact Kd.R_mono HO370.out (fun _ hk => ⟨trivial, hk⟩)) hg hat)
                    replace HO376 := am (Kd.R_over' (kr HO376) (Kd.R_typed (kr HO367)) (by decide) hg)
                    replace HB := am (hb)
                    have HO373 := am (ho)
                    clear HO367
                    clear ho hb hg hat
                    refine hK.out _ _ ⟨cA BK353 0, cA BK351 0, cB HB hw380_0, cB HB hw380_1, cB HB hw380_2, cB HB hw380_3, cB HB hw380_4, cB HB hw380_5⟩ (fun hHeld => ?_)
                    clear hK K
                    refine nP ?_
                    exact nD (hJ3_5_7_8_9 (v363, v366, .slice Ao41 y368.length co41, v372, v375) _ ⟨hHeld, (by (with_reducible repeat (first | apply Kd.R_alloc | apply Kd.R_drewN | apply Kd.R_drew)); exact Kd.R_mono HO370.out (fun _ hk => hk.2)), (kr HO373), (kr HO376), (kb BK351), (kb BK352), (kb BK353), (be HB)⟩)
                   refine Kd.R_lit_step k48 _ 48 ?hg (N := 49) ?hd (xs := ([(⟨(⟨(rd_T48 l4_0 x10_2).f0.f0, (rd_T48 l4_0 x10_2).f0.f1⟩ : S46), (rd_T48 l4_0 x10_2).f1, (rd_T48 l4_0 x10_2).f2, (rd_T48 l4_0 x10_2).f3, (rd_T48 l4_0 x10_2).f4⟩ : S48)] : List (S48))) (inner := [.int .i8 ((rd_T48 l4_0 x10_2).f0.f0), .int .i8 ((rd_T48 l4_0 x10_2).f0.f1), .int .i8 ((rd_T48 l4_0 x10_2).f1), .int .i8 ((rd_T48 l4_0 x10_2).f2), .int .i8 ((rd_T48 l4_0 x10_2).f3), .int .i8 ((rd_T48 l4_0 x10_2).f4)]) (ok := fun _ => True) (okp := fun _ => True) ?hr ?hp (fun _ hk => hk) trivial (Below.refl _ _) (Nat.le_refl _) (by simp) ?_; (case hd => rfl); (case hg => rfl); (case hr => first | (go_simp; done) | (go_simp; rfl)); (case hp => exact (Reps.c6 (show Kd.M k48 _ _ _ (⟨(⟨(rd_T48 l4_0 x10_2).f0.f0, (rd_T48 l4_0 x10_2).f0.f1⟩ : S46), (rd_T48 l4_0 x10_2).f1, (rd_T48 l4_0 x10_2).f2, (rd_T48 l4_0 x10_2).f3, (rd_T48 l4_0 x10_2).f4⟩ : S48) [.int .i8 ((rd_T48 l4_0 x10_2).f0.f0), .int .i8 ((rd_T48 l4_0 x10_2).f0.f1), .int .i8 ((rd_T48 l4_0 x10_2).f1), .int .i8 ((rd_T48 l4_0 x10_2).f2), .int .i8 ((rd_T48 l4_0 x10_2).f3), .int .i8 ((rd_T48 l4_0 x10_2).f4)] from (k48_mkM _ _ _ (⟨(⟨(rd_T48 l4_0 x10_2).f0.f0, (rd_T48 l4_0 x10_2).f0.f1⟩ : S46), (rd_T48 l4_0 x10_2).f1, (rd_T48 l4_0 x10_2).f2, (rd_T48 l4_0 x10_2).f3, (rd_T48 l4_0 x10_2).f4⟩ : S48) )) (Reps.none _ _)))
                   intro v382 w40 ho41 hb hg_ hnew_
                   clear hg_ hnew_
                   (first | rw [← Ny381.out] at ho41 | (simp only [Int.reduceToNat] at ho41; rw [← Ny381.out] at ho41))
                   replace HO367 := am (Kd.R_below (kr HO367) hb)
                   replace HO370 := am (Kd.R_below (kr HO370) hb)
                   have HO383 := am (Kd.R_lower (Kd.R_new' ho41 (Kd.R_lt (kr HO376))) (below_size (be HB)))
                   replace HO376 := am (Kd.R_elder' (kr HO376) (Kd.R_base ho41) hb)
                   replace BK351 := bB BK351 hb
                   replace BK352 := bB BK352 hb
                   replace BK353 := bB BK353 hb
                   replace HB := am (below_step (be HB) hb)
                   clear hb ho41
                   refine hK.out _ _ ⟨cA BK353 0, cA BK351 0, cB HB hw380_0, cB HB hw380_1, cB HB hw380_2, cB HB hw380_3, cB HB hw380_4, cB HB hw380_5⟩ (fun hHeld => ?_)
                   clear hK K
                   refine nP ?_
                   exact nD (hJ3_5_7_9_16 (v363, v366, v369, v375, v382) _ ⟨hHeld, (kr HO367), (kr HO370), (by (with_reducible repeat (first | apply Kd.R_alloc | apply Kd.R_drewN | apply Kd.R_drew)); exact Kd.R_mono HO376.out (fun _ hk => hk.2)), (by (with_reducible repeat (first | apply Kd.R_alloc | apply Kd.R_drewN | apply Kd.R_drew)); exact Kd.R_mono HO383.out (fun _ hk => hk.2)), (kb BK351), (kb BK352), (kb BK353), (be HB)⟩)
                  rintro ⟨v363, v366, v369, v372⟩ w39 ⟨hS_, h0_, h1_, h2_, h3_, h4_, h5_⟩
                  have HO370 : Aside0 (Kd.R (Kd.int .i64) 2 w39 w.heap.size (fun k_ => some k_ ≠ (v372 : Value).ownBlock) v369 y368) := ⟨h0_⟩
                  have HO373 : Aside0 (Kd.R (Kd.int .i64) 2 w39 w.heap.size (fun k_ => some k_ ≠ (v369 : Value).ownBlock) v372 y371) := ⟨h1_⟩
                  replace BK351 : Aside0 (w39.heap[gl]? = some (.cells #[.slice (some ad360) l4_0.length c4_0] 34 (0, 0))) := ⟨h2_⟩
                  replace BK352 : Aside0 (w39.heap[gy]? = some (.cells (csBay a5_0 a5_1 a5_2) 32 (0, 0))) := ⟨h3_⟩
                  replace BK353 : Aside0 (w39.heap[gs]? = some (.cells #[fvS gb gl gy gs] 54 (0, 0))) := ⟨h4_⟩
                  replace HB : Aside0 (Below w.heap.size w w39) := ⟨h5_⟩
                  clear h0_ h1_ h2_ h3_ h4_ h5_
                  have hHeld : Hd gb gl gy gs ad360 l4_0 c4_0 x10_2 w39 := hS_
                  refine nQ ?_
                  refine two_ (i := 9) (j := 16) (Ni := some 42) (Nj := some 49) #[true, true, true, true, true, true, true, true, true, true, true, false, true, true, true, true, false, false, false] #[true, true, true, true, true, true, true, true, true, false, true, false, true, true, true, true, true, false, false] rfl rfl rfl rfl (two_of HT_.out (by kernel_rfl)) (by decide) (by decide) (fun K hK => ?_) (fun K hK => ?_)
                  ·skip
                   refine Kd.R_lit_step k48 _ 48 ?hg (N := 42) ?hd (xs := ([] : List (S48))) (inner := []) (ok := fun _ => True) (okp := fun _ => True) ?hr ?hp (fun _ hk => hk) trivial (Below.refl _ _) (Nat.le_refl _) (by simp) ?_; (case hd => rfl); (case hg => rfl); (case hr => first | (go_simp; done) | (go_simp; rfl)); (case hp => exact (Reps.none _ _))
                   intro v375 w40 ho41 hb hg_ hnew_
                   clear hg_ hnew_
                   (first | rw [← Ny374.out] at ho41 | (simp only [Int.reduceToNat] at ho41; rw [← Ny374.out] at ho41))
                   replace HO370 := am (Kd.R_below (kr HO370) hb)
                   replace HO373 := am (Kd.R_below (kr HO373) hb)
                   have HO376 := am (Kd.R_lower ho41 (below_size (be HB)))
                   replace BK351 := bB BK351 hb
                   replace BK352 := bB BK352 hb
                   replace BK353 := bB BK353 hb
                   replace HB := am (below_step (be HB) hb)
                   clear hb ho41
                   refine hK.out _ _ ⟨cA BK353 0, cA BK351 0, cB HB hw380_0, cB HB hw380_1, cB HB hw380_2, cB HB hw380_3, cB HB hw380_4, cB HB hw380_5⟩ (fun hHeld => ?_)
                   clear hK K
                   refine nP ?_
                   exact nD (hJ3_5_7_8_9 (v363, v366, v369, v372, v375) _ ⟨hHeld, (kr HO370), (kr HO373), (kr HO376), (kb BK351), (kb BK352), (kb BK353), (be HB)⟩)
                  refine Kd.R_lit_step k48 _ 48 ?hg (N := 49) ?hd (xs := ([(⟨(⟨(rd_T48 l4_0 x10_2).f0.f0, (rd_T48 l4_0 x10_2).f0.f1⟩ : S46), (rd_T48 l4_0 x10_2).f1, (rd_T48 l4_0 x10_2).f2, (rd_T48 l4_0 x10_2).f3, (rd_T48 l4_0 x10_2).f4⟩ : S48)] : List (S48))) (inner := [.int .i8 ((rd_T48 l4_0 x10_2).f0.f0), .int .i8 ((rd_T48 l4_0 x10_2).f0.f1), .int .i8 ((rd_T48 l4_0 x10_2).f1), .int .i8 ((rd_T48 l4_0 x10_2).f2), .int .i8 ((rd_T48 l4_0 x10_2).f3), .int .i8 ((rd_T48 l4_0 x10_2).f4)]) (ok := fun _ => True) (okp := fun _ => True) ?hr ?hp (fun _ hk => hk) trivial (Below.refl _ _) (Nat.le_refl _) (by simp) ?_; (case hd => rfl); (case hg => rfl); (case hr => first | (go_simp; done) | (go_simp; rfl)); (case hp => exact (Reps.c6 (show Kd.M k48 _ _ _ (⟨(⟨(rd_T48 l4_0 x10_2).f0.f0, (rd_T48 l4_0 x10_2).f0.f1⟩ : S46), (rd_T48 l4_0 x10_2).f1, (rd_T48 l4_0 x10_2).f2, (rd_T48 l4_0 x10_2).f3, (rd_T48 l4_0 x10_2).f4⟩ : S48) [.int .i8 ((rd_T48 l4_0 x10_2).f0.f0), .int .i8 ((rd_T48 l4_0 x10_2).f0.f1), .int .i8 ((rd_T48 l4_0 x10_2).f1), .int .i8 ((rd_T48 l4_0 x10_2).f2), .int .i8 ((rd_T48 l4_0 x10_2).f3), .int .i8 ((rd_T48 l4_0 x10_2).f4)] from (k48_mkM _ _ _ (⟨(⟨(rd_T48 l4_0 x10_2).f0.f0, (rd_T48 l4_0 x10_2).f0.f1⟩ : S46), (rd_T48 l4_0 x10_2).f1, (rd_T48 l4_0 x10_2).f2, (rd_T48 l4_0 x10_2).f3, (rd_T48 l4_0 x10_2).f4⟩ : S48) )) (Reps.none _ _)))
                  intro v382 w40 ho41 hb hg_ hnew_
                  clear hg_ hnew_
                  (first | rw [← Ny381.out] at ho41 | (simp only [Int.reduceToNat] at ho41; rw [← Ny381.out] at ho41))
                  replace HO370 := am (Kd.R_below (kr HO370) hb)
                  replace HO373 := am (Kd.R_below (kr HO373) hb)
                  have HO383 := am (Kd.R_lower ho41 (below_size (be HB)))
                  replace BK351 := bB BK351 hb
                  replace BK352 := bB BK352 hb
                  replace BK353 := bB BK353 hb
                  replace HB := am (below_step (be HB) hb)
                  clear hb ho41
                  refine hK.out _ _ ⟨cA BK353 0, cA BK351 0, cB HB hw380_0, cB HB hw380_1, cB HB hw380_2, cB HB hw380_3, cB HB hw380_4, cB HB hw380_5⟩ (fun hHeld => ?_)
                  clear hK K
                  refine nP ?_
                  exact nD (hJ3_5_7_8_16 (v363, v366, v369, v372, v382) _ ⟨hHeld, (kr HO370), (kr HO373), (kr HO383), (kb BK351), (kb BK352), (kb BK353), (be HB)⟩)
                 rintro ⟨v363, v366, v369, v375, v382⟩ w41 ⟨hS_, h0_, h1_, h2_, h3_, h4_, h5_, h6_, h7_⟩
                 have HO367 : Aside0 (Kd.R (Kd.int .i64) 2 w41 w.heap.size (fun k_ => some k_ ≠ (v369 : Value).ownBlock) v366 y365) := ⟨h0_⟩
                 have HO370 : Aside0 (Kd.R (Kd.int .i64) 2 w41 w.heap.size (fun k_ => some k_ ≠ (v366 : Value).ownBlock) v369 y368) := ⟨h1_⟩
                 have HO376 : Aside0 (Kd.R k48 48 w41 w.heap.size (fun k_ => some k_ ≠ (v382 : Value).ownBlock) v375 y374) := ⟨h2_⟩
                 have HO383 : Aside0 (Kd.R k48 48 w41 w.heap.size (fun k_ => some k_ ≠ (v375 : Value).ownBlock) v382 y381) := ⟨h3_⟩
                 replace BK351 : Aside0 (w41.heap[gl]? = some (.cells #[.slice (some ad360) l4_0.length c4_0] 34 (0, 0))) := ⟨h4_⟩
                 replace BK352 : Aside0 (w41.heap[gy]? = some (.cells (csBay a5_0 a5_1 a5_2) 32 (0, 0))) := ⟨h5_⟩
                 replace BK353 : Aside0 (w41.heap[gs]? = some (.cells #[fvS gb gl gy gs] 54 (0, 0))) := ⟨h6_⟩
                 replace HB : Aside0 (Below w.heap.size w w41) := ⟨h7_⟩
                 clear h0_ h1_ h2_ h3_ h4_ h5_ h6_ h7_
                 have hHeld : Hd gb gl gy gs ad360 l4_0 c4_0 x10_2 w41 := hS_
                 obtain ⟨Ao43, co43, eo43⟩ := Kd.R_slice HO370.out
                 (first | subst eo43 | (injection eo43 with f1_ f2_ f3_; have f4_ := f1_.symm; have f5_ := f3_.symm; clear f1_ f2_ f3_; subst f4_; subst f5_))
                 refine nQ ?_
                 refine one_ (i := 8) (N := some 41) #[true, true, true, true, true, true, true, true, true, true, true, false, true, true, true, true, true, false, false] rfl rfl (one_of HT_.out (by kernel_rfl)) (by decide) (fun K hK => ?_)
                 refine Kd.R_append_rows_step (Kd.int .i64) (w0 := w) w.heap.size (by rfl) (.tmp 38) (.tmp 40) 29 2 (.int .i64 0) 8 rfl Try.underlying29 info2 rfl (by decide) (by omega) v366 y365 y368 _ _ _ (fun k_ => some k_ ≠ (.slice Ao43 y368.length co43 : Value).ownBlock) (fun _ => False) rfl rfl ?aO ?aR (fun _ _ h => h) (fun _ h => h.elim) ?aF ?aB ?aS ?aL ?_
                 (case aR => repeat (first | exact (Kd.R_reads' HO370.out).2.2 | (with_reducible refine Kd.C_alloc ?_ _) | (with_reducible refine Kd.C_drewN ?_ _) | (with_reducible refine Kd.C_drew ?_)))
                 (case aB => exact (be HB))
                 (case aF => exact (fun k_ hk => Kd.fresh' (Kd.R_lt (kr HO370)) k_ hk))
                 (case aO => exact (kr HO367))
                 (case aS => exact (below_size (be HB)))
                 (case aL => have := LMc22.out; omega)
                 intro v372 w42 ho hb hg hat
                 rw [← Ny371.out] at ho
                 replace BK351 := am (blk_grown (g := gl) (o := .cells #[.slice (some ad360) l4_0.length c4_0] 34 (0, 0)) (kb BK351) hg (Kd.R_ne HO367.out BK351.out (by decide)))
                 replace BK352 := am (blk_grown (g := gy) (o := .cells (csBay a5_0 a5_1 a5_2) 32 (0, 0)) (kb BK352) hg (Kd.R_ne HO367.out BK352.out (by decide)))
                 replace BK353 := am (blk_grown (g := gs) (o := .cells #[fvS gb gl gy gs] 54 (0, 0)) (kb BK353) hg (Kd.R_ne HO367.out BK353.out (by decide)))
                 replace HO370 := am (Kd.R_after (ok := (fun _ => True)) (by (with_reducible repeat (first | apply Kd.R_alloc | apply Kd.R_drewN | apply Kd.R_drew)); exact Kd.R_mono HO370.out (fun _ hk => ⟨trivial, hk⟩)) hg hat)
                 replace HO376 := am (Kd.R_over' (kr HO376) (Kd.R_typed (kr HO367)) (by decide) hg)
                 replace HO383 := am (Kd.R_over' (kr HO383) (Kd.R_typed (kr HO367)) (by decide) hg)
                 replace HB := am (hb)
                 have HO373 := am (ho)
                 clear HO367
                 clear ho hb hg hat
                 refine hK.out _ _ ⟨cA BK353 0, cA BK351 0, cB HB hw380_0, cB HB hw380_1, cB HB hw380_2, cB HB hw380_3, cB HB hw380_4, cB HB hw380_5⟩ (fun hHeld => ?_)
                 clear hK K
                 refine nP ?_
                 exact nD (hJ3_5_7_8_9_16 (v363, v366, .slice Ao43 y368.length co43, v372, v375, v382) _ ⟨hHeld, (by (with_reducible repeat (first | apply Kd.R_alloc | apply Kd.R_drewN | apply Kd.R_drew)); exact Kd.R_mono HO370.out (fun _ hk => hk.2)), (kr HO373), (kr HO376), (kr HO383), (kb BK351), (kb BK352), (kb BK353), (be HB)⟩)
                rintro ⟨v363, v366, v369, v372, v382⟩ w41 ⟨hS_, h0_, h1_, h2_, h3_, h4_, h5_, h6_⟩
                have HO370 : Aside0 (Kd.R (Kd.int .i64) 2 w41 w.heap.size (fun k_ => some k_ ≠ (v372 : Value).ownBlock) v369 y368) := ⟨h0_⟩
                have HO373 : Aside0 (Kd.R (Kd.int .i64) 2 w41 w.heap.size (fun k_ => some k_ ≠ (v369 : Value).ownBlock) v372 y371) := ⟨h1_⟩
                have HO383 : Aside0 (Kd.R k48 48 w41 w.heap.size (fun _ => True) v382 y381) := ⟨h2_⟩
                replace BK351 : Aside0 (w41.heap[gl]? = some (.cells #[.slice (some ad360) l4_0.length c4_0] 34 (0, 0))) := ⟨h3_⟩
                replace BK352 : Aside0 (w41.heap[gy]? = some (.cells (csBay a5_0 a5_1 a5_2) 32 (0, 0))) := ⟨h4_⟩
                replace BK353 : Aside0 (w41.heap[gs]? = some (.cells #[fvS gb gl gy gs] 54 (0, 0))) := ⟨h5_⟩
                replace HB : Aside0 (Below w.heap.size w w41) := ⟨h6_⟩
                clear h0_ h1_ h2_ h3_ h4_ h5_ h6_
                have hHeld : Hd gb gl gy gs ad360 l4_0 c4_0 x10_2 w41 := hS_
                refine nQ ?_
                refine one_ (i := 9) (N := some 42) #[true, true, true, true, true, true, true, true, true, true, true, false, true, true, true, true, true, false, false] rfl rfl (one_of HT_.out (by kernel_rfl)) (by decide) (fun K hK => ?_)
                refine Kd.R_lit_step k48 _ 48 ?hg (N := 42) ?hd (xs := ([] : List (S48))) (inner := []) (ok := fun _ => True) (okp := fun _ => True) ?hr ?hp (fun _ hk => hk) trivial (Below.refl _ _) (Nat.le_refl _) (by simp) ?_; (case hd => rfl); (case hg => rfl); (case hr => first | (go_simp; done) | (go_simp; rfl)); (case hp => exact (Reps.none _ _))
                intro v375 w42 ho43 hb hg_ hnew_
                clear hg_ hnew_
                (first | rw [← Ny374.out] at ho43 | (simp only [Int.reduceToNat] at ho43; rw [← Ny374.out] at ho43))
                replace HO370 := am (Kd.R_below (kr HO370) hb)
                replace HO373 := am (Kd.R_below (kr HO373) hb)
                have HO376 := am (Kd.R_lower (Kd.R_new' ho43 (Kd.R_lt (kr HO383))) (below_size (be HB)))
                replace HO383 := am (Kd.R_elder' (kr HO383) (Kd.R_base ho43) hb)
                replace BK351 := bB BK351 hb
                replace BK352 := bB BK352 hb
                replace BK353 := bB BK353 hb
                replace HB := am (below_step (be HB) hb)
                clear hb ho43
                refine hK.out _ _ ⟨cA BK353 0, cA BK351 0, cB HB hw380_0, cB HB hw380_1, cB HB hw380_2, cB HB hw380_3, cB HB hw380_4, cB HB hw380_5⟩ (fun hHeld => ?_)
                clear hK K
                refine nP ?_
                exact nD (hJ3_5_7_8_9_16 (v363, v366, v369, v372, v375, v382) _ ⟨hHeld, (kr HO370), (kr HO373), (by (with_reducible repeat (first | apply Kd.R_alloc | apply Kd.R_drewN | apply Kd.R_drew)); exact Kd.R_mono HO376.out (fun _ hk => hk.2)), (by (with_reducible repeat (first | apply Kd.R_alloc | apply Kd.R_drewN | apply Kd.R_drew)); exact Kd.R_mono HO383.out (fun _ hk => hk.2)), (kb BK351), (kb BK352), (kb BK353), (be HB)⟩)
               rintro ⟨v363, v366, v369, v372, v375⟩ w41 ⟨hS_, h0_, h1_, h2_, h3_, h4_, h5_, h6_⟩
               have HO370 : Aside0 (Kd.R (Kd.int .i64) 2 w41 w.heap.size (fun k_ => some k_ ≠ (v372 : Value).ownBlock) v369 y368) := ⟨h0_⟩
               have HO373 : Aside0 (Kd.R (Kd.int .i64) 2 w41 w.heap.size (fun k_ => some k_ ≠ (v369 : Value).ownBlock) v372 y371) := ⟨h1_⟩
               have HO376 : Aside0 (Kd.R k48 48 w41 w.heap.size (fun _ => True) v375 y374) := ⟨h2_⟩
               replace BK351 : Aside0 (w41.heap[gl]? = some (.cells #[.slice (some ad360) l4_0.length c4_0] 34 (0, 0))) := ⟨h3_⟩
               replace BK352 : Aside0 (w41.heap[gy]? = some (.cells (csBay a5_0 a5_1 a5_2) 32 (0, 0))) := ⟨h4_⟩
               replace BK353 : Aside0 (w41.heap[gs]? = some (.cells #[fvS gb gl gy gs] 54 (0, 0))) := ⟨h5_⟩
               replace HB : Aside0 (Below w.heap.size w w41) := ⟨h6_⟩
               clear h0_ h1_ h2_ h3_ h4_ h5_ h6_
               have hHeld : Hd gb gl gy gs ad360 l4_0 c4_0 x10_2 w41 := hS_
               refine nQ ?_
               refine two_ (i := 11) (j := 16) (Ni := some 44) (Nj := some 49) #[true, true, true, true, true, true, true, true, true, true, true, true, true, true, true, true, false, false, false] #[true, true, true, true, true, true, true, true, true, true, true, false, true, true, true, true, true, false, false] rfl rfl rfl rfl (two_of HT_.out (by kernel_rfl)) (by decide) (by decide) (fun K hK => ?_) (fun K hK => ?_)
               ·skip
                refine Kd.R_append_rows_step k48 (w0 := w) w.heap.size (by rfl) (.tmp 42) (.tmp 43) 34 48 (.agg #[(.int .i8 0), (.int .i8 0), (.int .i8 0), (.int .i8 0), (.int .i8 0), (.int .i8 0)]) 6 rfl Try.underlying34 info48 rfl (by decide) (by omega) v375 y374 l2 _ _ _ (fun _ => True) (fun _ => False) rfl rfl ?aO ?aR (fun _ _ h => h) (fun _ h => h.elim) ?aF ?aB ?aS ?aL ?_
                (case aR => repeat (first | exact (Kd.C_below HR2.out HB.out) | (with_reducible refine Kd.C_alloc ?_ _) | (with_reducible refine Kd.C_drewN ?_ _) | (with_reducible refine Kd.C_drew ?_)))
                (case aB => exact (be HB))
                (case aF => exact (fun _ _ => trivial))
                (case aO => exact (kr HO376))
                (case aS => exact (below_size (be HB)))
                (case aL => have := LMc23.out; omega)
                intro v378 w42 ho hb hg hat
                rw [← Ny377.out] at ho
                replace BK351 := am (blk_grown (g := gl) (o := .cells #[.slice (some ad360) l4_0.length c4_0] 34 (0, 0)) (kb BK351) hg (Kd.R_ne HO376.out BK351.out (by decide)))
                replace BK352 := am (blk_grown (g := gy) (o := .cells (csBay a5_0 a5_1 a5_2) 32 (0, 0)) (kb BK352) hg (Kd.R_ne HO376.out BK352.out (by decide)))
                replace BK353 := am (blk_grown (g := gs) (o := .cells #[fvS gb gl gy gs] 54 (0, 0)) (kb BK353) hg (Kd.R_ne HO376.out BK353.out (by decide)))
                replace HO370 := am (Kd.R_over' (kr HO370) (Kd.R_typed (kr HO376)) (by decide) hg)
                replace HO373 := am (Kd.R_over' (kr HO373) (Kd.R_typed (kr HO376)) (by decide) hg)
                replace HB := am (hb)
                have HO379 := am (ho)
                clear HO376
                clear ho hb hg hat
                refine hK.out _ _ ⟨cA BK353 0, cA BK351 0, cB HB hw380_0, cB HB hw380_1, cB HB hw380_2, cB HB hw380_3, cB HB hw380_4, cB HB hw380_5⟩ (fun hHeld => ?_)
                clear hK K
                refine nP ?_
                exact nD (hJ3_5_7_8_9_11 (v363, v366, v369, v372, v375, v378) _ ⟨hHeld, (kr HO370), (kr HO373), (kr HO379), (kb BK351), (kb BK352), (kb BK353), (be HB)⟩)
               refine Kd.R_lit_step k48 _ 48 ?hg (N := 49) ?hd (xs := ([(⟨(⟨(rd_T48 l4_0 x10_2).f0.f0, (rd_T48 l4_0 x10_2).f0.f1⟩ : S46), (rd_T48 l4_0 x10_2).f1, (rd_T48 l4_0 x10_2).f2, (rd_T48 l4_0 x10_2).f3, (rd_T48 l4_0 x10_2).f4⟩ : S48)] : List (S48))) (inner := [.int .i8 ((rd_T48 l4_0 x10_2).f0.f0), .int .i8 ((rd_T48 l4_0 x10_2).f0.f1), .int .i8 ((rd_T48 l4_0 x10_2).f1), .int .i8 ((rd_T48 l4_0 x10_2).f2), .int .i8 ((rd_T48 l4_0 x10_2).f3), .int .i8 ((rd_T48 l4_0 x10_2).f4)]) (ok := fun _ => True) (okp := fun _ => True) ?hr ?hp (fun _ hk => hk) trivial (Below.refl _ _) (Nat.le_refl _) (by simp) ?_; (case hd => rfl); (case hg => rfl); (case hr => first | (go_simp; done) | (go_simp; rfl)); (case hp => exact (Reps.c6 (show Kd.M k48 _ _ _ (⟨(⟨(rd_T48 l4_0 x10_2).f0.f0, (rd_T48 l4_0 x10_2).f0.f1⟩ : S46), (rd_T48 l4_0 x10_2).f1, (rd_T48 l4_0 x10_2).f2, (rd_T48 l4_0 x10_2).f3, (rd_T48 l4_0 x10_2).f4⟩ : S48) [.int .i8 ((rd_T48 l4_0 x10_2).f0.f0), .int .i8 ((rd_T48 l4_0 x10_2).f0.f1), .int .i8 ((rd_T48 l4_0 x10_2).f1), .int .i8 ((rd_T48 l4_0 x10_2).f2), .int .i8 ((rd_T48 l4_0 x10_2).f3), .int .i8 ((rd_T48 l4_0 x10_2).f4)] from (k48_mkM _ _ _ (⟨(⟨(rd_T48 l4_0 x10_2).f0.f0, (rd_T48 l4_0 x10_2).f0.f1⟩ : S46), (rd_T48 l4_0 x10_2).f1, (rd_T48 l4_0 x10_2).f2, (rd_T48 l4_0 x10_2).f3, (rd_T48 l4_0 x10_2).f4⟩ : S48) )) (Reps.none _ _)))
               intro v382 w42 ho43 hb hg_ hnew_
               clear hg_ hnew_
               (first | rw [← Ny381.out] at ho43 | (simp only [Int.reduceToNat] at ho43; rw [← Ny381.out] at ho43))
               replace HO370 := am (Kd.R_below (kr HO370) hb)
               replace HO373 := am (Kd.R_below (kr HO373) hb)
               have HO383 := am (Kd.R_lower (Kd.R_new' ho43 (Kd.R_lt (kr HO376))) (below_size (be HB)))
               replace HO376 := am (Kd.R_elder' (kr HO376) (Kd.R_base ho43) hb)
               replace BK351 := bB BK351 hb
               replace BK352 := bB BK352 hb
               replace BK353 := bB BK353 hb
               replace HB := am (below_step (be HB) hb)
               clear hb ho43
               refine hK.out _ _ ⟨cA BK353 0, cA BK351 0, cB HB hw380_0, cB HB hw380_1, cB HB hw380_2, cB HB hw380_3, cB HB hw380_4, cB HB hw380_5⟩ (fun hHeld => ?_)
               clear hK K
               refine nP ?_
               exact nD (hJ3_5_7_8_9_16 (v363, v366, v369, v372, v375, v382) _ ⟨hHeld, (kr HO370), (kr HO373), (by (with_reducible repeat (first | apply Kd.R_alloc | apply Kd.R_drewN | apply Kd.R_drew)); exact Kd.R_mono HO376.out (fun _ hk => hk.2)), (by (with_reducible repeat (first | apply Kd.R_alloc | apply Kd.R_drewN | apply Kd.R_drew)); exact Kd.R_mono HO383.out (fun _ hk => hk.2)), (kb BK351), (kb BK352), (kb BK353), (be HB)⟩)
              rintro ⟨v363, v366, v369, v372, v375, v382⟩ w43 ⟨hS_, h0_, h1_, h2_, h3_, h4_, h5_, h6_, h7_⟩
              have HO370 : Aside0 (Kd.R (Kd.int .i64) 2 w43 w.heap.size (fun k_ => some k_ ≠ (v372 : Value).ownBlock) v369 y368) := ⟨h0_⟩
              have HO373 : Aside0 (Kd.R (Kd.int .i64) 2 w43 w.heap.size (fun k_ => some k_ ≠ (v369 : Value).ownBlock) v372 y371) := ⟨h1_⟩
              have HO376 : Aside0 (Kd.R k48 48 w43 w.heap.size (fun k_ => some k_ ≠ (v382 : Value).ownBlock) v375 y374) := ⟨h2_⟩
              have HO383 : Aside0 (Kd.R k48 48 w43 w.heap.size (fun k_ => some k_ ≠ (v375 : Value).ownBlock) v382 y381) := ⟨h3_⟩
              replace BK351 : Aside0 (w43.heap[gl]? = some (.cells #[.slice (some ad360) l4_0.length c4_0] 34 (0, 0))) := ⟨h4_⟩
              replace BK352 : Aside0 (w43.heap[gy]? = some (.cells (csBay a5_0 a5_1 a5_2) 32 (0, 0))) := ⟨h5_⟩
              replace BK353 : Aside0 (w43.heap[gs]? = some (.cells #[fvS gb gl gy gs] 54 (0, 0))) := ⟨h6_⟩
              replace HB : Aside0 (Below w.heap.size w w43) := ⟨h7_⟩
              clear h0_ h1_ h2_ h3_ h4_ h5_ h6_ h7_
              have hHeld : Hd gb gl gy gs ad360 l4_0 c4_0 x10_2 w43 := hS_
              refine nQ ?_
              refine one_ (i := 11) (N := some 44) #[true, true, true, true, true, true, true, true, true, true, true, true, true, true, true, true, true, false, false] rfl rfl (one_of HT_.out (by kernel_rfl)) (by decide) (fun K hK => ?_)
              refine Kd.R_append_rows_step k48 (w0 := w) w.heap.size (by rfl) (.tmp 42) (.tmp 43) 34 48 (.agg #[(.int .i8 0), (.int .i8 0), (.int .i8 0), (.int .i8 0), (.int .i8 0), (.int .i8 0)]) 6 rfl Try.underlying34 info48 rfl (by decide) (by omega) v375 y374 l2 _ _ _ (fun k_ => some k_ ≠ (v382 : Value).ownBlock) (fun _ => False) rfl rfl ?aO ?aR (fun _ _ h => h) (fun _ h => h.elim) ?aF ?aB ?aS ?aL ?_
              (case aR => repeat (first | exact (Kd.C_below HR2.out HB.out) | (with_reducible refine Kd.C_alloc ?_ _) | (with_reducible refine Kd.C_drewN ?_ _) | (with_reducible refine Kd.C_drew ?_)))
              (case aB => exact (be HB))
              (case aF => exact (fun k_ hk => Kd.fresh' (Kd.R_lt (kr HO383)) k_ hk))
              (case aO => exact (kr HO376))
              (case aS => exact (below_size (be HB)))
              (case aL => have := LMc23.out; omega)
              intro v378 w44 ho hb hg hat
              rw [← Ny377.out] at ho
              replace BK351 := am (blk_grown (g := gl) (o := .cells #[.slice (some ad360) l4_0.length c4_0] 34 (0, 0)) (kb BK351) hg (Kd.R_ne HO376.out BK351.out (by decide)))
              replace BK352 := am (blk_grown (g := gy) (o := .cells (csBay a5_0 a5_1 a5_2) 32 (0, 0)) (kb BK352) hg (Kd.R_ne HO376.out BK352.out (by decide)))
              replace BK353 := am (blk_grown (g := gs) (o := .cells #[fvS gb gl gy gs] 54 (0, 0)) (kb BK353) hg (Kd.R_ne HO376.out BK353.out (by decide)))
              replace HO370 := am (Kd.R_over' (kr HO370) (Kd.R_typed (kr HO376)) (by decide) hg)
              replace HO373 := am (Kd.R_over' (kr HO373) (Kd.R_typed (kr HO376)) (by decide) hg)
              replace HO383 := am (Kd.R_after (ok := (fun _ => True)) (by (with_reducible repeat (first | apply Kd.R_alloc | apply Kd.R_drewN | apply Kd.R_drew)); exact Kd.R_mono HO383.out (fun _ hk => ⟨trivial, hk⟩)) hg hat)
              replace HB := am (hb)
              have HO379 := am (ho)
              clear HO376
              clear ho hb hg hat
              refine hK.out _ _ ⟨cA BK353 0, cA BK351 0, cB HB hw380_0, cB HB hw380_1, cB HB hw380_2, cB HB hw380_3, cB HB hw380_4, cB HB hw380_5⟩ (fun hHeld => ?_)
              clear hK K
              refine nP ?_
              exact nD (hJ3_5_7_8_9_11_16 (v363, v366, v369, v372, v375, v378, v382) _ ⟨hHeld, (kr HO370), (kr HO373), (kr HO379), (by (with_reducible repeat (first | apply Kd.R_alloc | apply Kd.R_drewN | apply Kd.R_drew)); exact Kd.R_mono HO383.out (fun _ hk => hk.2)), (kb BK351), (kb BK352), (kb BK353), (be HB)⟩)
             rintro ⟨v363, v366, v369, v372, v375, v378⟩ w42 ⟨hS_, h0_, h1_, h2_, h3_, h4_, h5_, h6_⟩
             have HO370 : Aside0 (Kd.R (Kd.int .i64) 2 w42 w.heap.size (fun k_ => some k_ ≠ (v372 : Value).ownBlock) v369 y368) := ⟨h0_⟩
             have HO373 : Aside0 (Kd.R (Kd.int .i64) 2 w42 w.heap.size (fun k_ => some k_ ≠ (v369 : Value).ownBlock) v372 y371) := ⟨h1_⟩
             have HO379 : Aside0 (Kd.R k48 48 w42 w.heap.size (fun _ => True) v378 y377) := ⟨h2_⟩
             replace BK351 : Aside0 (w42.heap[gl]? = some (.cells #[.slice (some ad360) l4_0.length c4_0] 34 (0, 0))) := ⟨h3_⟩
             replace BK352 : Aside0 (w42.heap[gy]? = some (.cells (csBay a5_0 a5_1 a5_2) 32 (0, 0))) := ⟨h4_⟩
             replace BK353 : Aside0 (w42.heap[gs]? = some (.cells #[fvS gb gl gy gs] 54 (0, 0))) := ⟨h5_⟩
             replace HB : Aside0 (Below w.heap.size w w42) := ⟨h6_⟩
             clear h0_ h1_ h2_ h3_ h4_ h5_ h6_
             have hHeld : Hd gb gl gy gs ad360 l4_0 c4_0 x10_2 w42 := hS_
             refine nQ ?_
             refine one_ (i := 16) (N := some 49) #[true, true, true, true, true, true, true, true, true, true, true, true, true, true, true, true, true, false, false] rfl rfl (one_of HT_.out (by kernel_rfl)) (by decide) (fun K hK => ?_)
             refine Kd.R_lit_step k48 _ 48 ?hg (N := 49) ?hd (xs := ([(⟨(⟨(rd_T48 l4_0 x10_2).f0.f0, (rd_T48 l4_0 x10_2).f0.f1⟩ : S46), (rd_T48 l4_0 x10_2).f1, (rd_T48 l4_0 x10_2).f2, (rd_T48 l4_0 x10_2).f3, (rd_T48 l4_0 x10_2).f4⟩ : S48)] : List (S48))) (inner := [.int .i8 ((rd_T48 l4_0 x10_2).f0.f0), .int .i8 ((rd_T48 l4_0 x10_2).f0.f1), .int .i8 ((rd_T48 l4_0 x10_2).f1), .int .i8 ((rd_T48 l4_0 x10_2).f2), .int .i8 ((rd_T48 l4_0 x10_2).f3), .int .i8 ((rd_T48 l4_0 x10_2).f4)]) (ok := fun _ => True) (okp := fun _ => True) ?hr ?hp (fun _ hk => hk) trivial (Below.refl _ _) (Nat.le_refl _) (by simp) ?_; (case hd => rfl); (case hg => rfl); (case hr => first | (go_simp; done) | (go_simp; rfl)); (case hp => exact (Reps.c6 (show Kd.M k48 _ _ _ (⟨(⟨(rd_T48 l4_0 x10_2).f0.f0, (rd_T48 l4_0 x10_2).f0.f1⟩ : S46), (rd_T48 l4_0 x10_2).f1, (rd_T48 l4_0 x10_2).f2, (rd_T48 l4_0 x10_2).f3, (rd_T48 l4_0 x10_2).f4⟩ : S48) [.int .i8 ((rd_T48 l4_0 x10_2).f0.f0), .int .i8 ((rd_T48 l4_0 x10_2).f0.f1), .int .i8 ((rd_T48 l4_0 x10_2).f1), .int .i8 ((rd_T48 l4_0 x10_2).f2), .int .i8 ((rd_T48 l4_0 x10_2).f3), .int .i8 ((rd_T48 l4_0 x10_2).f4)] from (k48_mkM _ _ _ (⟨(⟨(rd_T48 l4_0 x10_2).f0.f0, (rd_T48 l4_0 x10_2).f0.f1⟩ : S46), (rd_T48 l4_0 x10_2).f1, (rd_T48 l4_0 x10_2).f2, (rd_T48 l4_0 x10_2).f3, (rd_T48 l4_0 x10_2).f4⟩ : S48) )) (Reps.none _ _)))
             intro v382 w43 ho44 hb hg_ hnew_
             clear hg_ hnew_
             (first | rw [← Ny381.out] at ho44 | (simp only [Int.reduceToNat] at ho44; rw [← Ny381.out] at ho44))
             replace HO370 := am (Kd.R_below (kr HO370) hb)
             replace HO373 := am (Kd.R_below (kr HO373) hb)
             have HO383 := am (Kd.R_lower (Kd.R_new' ho44 (Kd.R_lt (kr HO379))) (below_size (be HB)))
             replace HO379 := am (Kd.R_elder' (kr HO379) (Kd.R_base ho44) hb)
             replace BK351 := bB BK351 hb
             replace BK352 := bB BK352 hb
             replace BK353 := bB BK353 hb
             replace HB := am (below_step (be HB) hb)
             clear hb ho44
             refine hK.out _ _ ⟨cA BK353 0, cA BK351 0, cB HB hw380_0, cB HB hw380_1, cB HB hw380_2, cB HB hw380_3, cB HB hw380_4, cB HB hw380_5⟩ (fun hHeld => ?_)
             clear hK K
             refine nP ?_
             exact nD (hJ3_5_7_8_9_11_16 (v363, v366, v369, v372, v375, v378, v382) _ ⟨hHeld, (kr HO370), (kr HO373), (by (with_reducible repeat (first | apply Kd.R_alloc | apply Kd.R_drewN | apply Kd.R_drew)); exact Kd.R_mono HO379.out (fun _ hk => hk.2)), (by (with_reducible repeat (first | apply Kd.R_alloc | apply Kd.R_drewN | apply Kd.R_drew)); exact Kd.R_mono HO383.out (fun _ hk => hk.2)), (kb BK351), (kb BK352), (kb BK353), (be HB)⟩)
            rintro ⟨v363, v366, v369, v372, v375, v378, v382⟩ w44 ⟨hS_, h0_, h1_, h2_, h3_, h4_, h5_, h6_, h7_⟩
            have HO370 : Aside0 (Kd.R (Kd.int .i64) 2 w44 w.heap.size (fun k_ => some k_ ≠ (v372 : Value).ownBlock) v369 y368) := ⟨h0_⟩
            have HO373 : Aside0 (Kd.R (Kd.int .i64) 2 w44 w.heap.size (fun k_ => some k_ ≠ (v369 : Value).ownBlock) v372 y371) := ⟨h1_⟩
            have HO379 : Aside0 (Kd.R k48 48 w44 w.heap.size (fun k_ => some k_ ≠ (v382 : Value).ownBlock) v378 y377) := ⟨h2_⟩
            have HO383 : Aside0 (Kd.R k48 48 w44 w.heap.size (fun k_ => some k_ ≠ (v378 : Value).ownBlock) v382 y381) := ⟨h3_⟩
            replace BK351 : Aside0 (w44.heap[gl]? = some (.cells #[.slice (some ad360) l4_0.length c4_0] 34 (0, 0))) := ⟨h4_⟩
            replace BK352 : Aside0 (w44.heap[gy]? = some (.cells (csBay a5_0 a5_1 a5_2) 32 (0, 0))) := ⟨h5_⟩
            replace BK353 : Aside0 (w44.heap[gs]? = some (.cells #[fvS gb gl gy gs] 54 (0, 0))) := ⟨h6_⟩
            replace HB : Aside0 (Below w.heap.size w w44) := ⟨h7_⟩
            clear h0_ h1_ h2_ h3_ h4_ h5_ h6_ h7_
            have hHeld : Hd gb gl gy gs ad360 l4_0 c4_0 x10_2 w44 := hS_
            obtain ⟨Ao46, co46, eo46⟩ := Kd.R_slice HO383.out
            (first | subst eo46 | (injection eo46 with f1_ f2_ f3_; have f4_ := f1_.symm; have f5_ := f3_.symm; clear f1_ f2_ f3_; subst f4_; subst f5_))
            refine nQ ?_
            refine one_ (i := 17) (N := some 50) #[true, true, true, true, true, true, true, true, true, true, true, true, true, true, true, true, true, true, false] rfl rfl (one_of HT_.out (by kernel_rfl)) (by decide) (fun K hK => ?_)
            refine Kd.R_append_rows_step k48 (w0 := w) w.heap.size (by rfl) (.tmp 44) (.tmp 49) 34 48 (.agg #[(.int .i8 0), (.int .i8 0), (.int .i8 0), (.int .i8 0), (.int .i8 0), (.int .i8 0)]) 6 rfl Try.underlying34 info48 rfl (by decide) (by omega) v378 y377 y381 _ _ _ (fun k_ => some k_ ≠ (.slice Ao46 y381.length co46 : Value).ownBlock) (fun _ => False) rfl rfl ?aO ?aR (fun _ _ h => h) (fun _ h => h.elim) ?aF ?aB ?aS ?aL ?_
            (case aR => repeat (first | exact (Kd.R_reads' HO383.out).2.2 | (with_reducible refine Kd.C_alloc ?_ _) | (with_reducible refine Kd.C_drewN ?_ _) | (with_reducible refine Kd.C_drew ?_)))
            (case aB => exact (be HB))
            (case aF => exact (fun k_ hk => Kd.fresh' (Kd.R_lt (kr HO383)) k_ hk))
            (case aO => exact (kr HO379))
            (case aS => exact (below_size (be HB)))
            (case aL => have := LMc24.out; omega)
            intro v385 w45 ho hb hg hat
            rw [← Ny384.out] at ho
            replace BK351 := am (blk_grown (g := gl) (o := .cells #[.slice (some ad360) l4_0.length c4_0] 34 (0, 0)) (kb BK351) hg (Kd.R_ne HO379.out BK351.out (by decide)))
            replace BK352 := am (blk_grown (g := gy) (o := .cells (csBay a5_0 a5_1 a5_2) 32 (0, 0)) (kb BK352) hg (Kd.R_ne HO379.out BK352.out (by decide)))
            replace BK353 := am (blk_grown (g := gs) (o := .cells #[fvS gb gl gy gs] 54 (0, 0)) (kb BK353) hg (Kd.R_ne HO379.out BK353.out (by decide)))
            replace HO370 := am (Kd.R_over' (kr HO370) (Kd.R_typed (kr HO379)) (by decide) hg)
            replace HO373 := am (Kd.R_over' (kr HO373) (Kd.R_typed (kr HO379)) (by decide) hg)
            replace HO383 := am (Kd.R_after (ok := (fun _ => True)) (by (with_reducible repeat (first | apply Kd.R_alloc | apply Kd.R_drewN | apply Kd.R_drew)); exact Kd.R_mono HO383.out (fun _ hk => ⟨trivial, hk⟩)) hg hat)
            replace HB := am (hb)
            have HO386 := am (ho)
            clear HO379
            clear ho hb hg hat
            obtain ⟨Ao47, co47, eo47⟩ := Kd.R_slice HO373.out
            (first | subst eo47 | (injection eo47 with f1_ f2_ f3_; have f4_ := f1_.symm; have f5_ := f3_.symm; clear f1_ f2_ f3_; subst f4_; subst f5_))
            obtain ⟨Ao48, co48, eo48⟩ := Kd.R_slice HO386.out
            (first | subst eo48 | (injection eo48 with f1_ f2_ f3_; have f4_ := f1_.symm; have f5_ := f3_.symm; clear f1_ f2_ f3_; subst f4_; subst f5_))
            refine hK.out _ _ ⟨cA BK353 0, cA BK351 0, cB HB hw380_0, cB HB hw380_1, cB HB hw380_2, cB HB hw380_3, cB HB hw380_4, cB HB hw380_5⟩ (fun hHeld => ?_)
            clear hK K
            refine nP ?_
            refine one_ (i := 18) (N := some 51) #[true, true, true, true, true, true, true, true, true, true, true, true, true, true, true, true, true, true, true] rfl rfl (one_of HT_.out (by kernel_rfl)) (by decide) (fun K hK => ?_)
            refine goesRV 33 Try.func19 (by kernel_rfl) rfl #[.pointer (some ⟨gb, 0, none⟩), .pointer (some ⟨gl, 0, none⟩), .pointer (some ⟨gy, 0, none⟩), .pointer (some ⟨gs, 0, none⟩)] #[.int .i64 (wrap64 (x10_2 + 1)), .slice Ao47 y371.length co47, .slice Ao48 y384.length co48] #[.int .i64 (wrap64 (x10_2 + 1)), .slice Ao47 y371.length co47, .slice Ao48 y384.length co48, .pointer (some ⟨gb, 0, none⟩), .pointer (some ⟨gl, 0, none⟩), .pointer (some ⟨gy, 0, none⟩), .pointer (some ⟨gs, 0, none⟩)] (by rfl) rfl rfl (by rfl) (by (try simp only [List.map_toArray, List.map_cons, List.map_nil]); first | done | rfl | (simp only [List.length_drop, List.length_take]; rfl)) (by simp) ?_
            refine (IH.out k2 (by have := HJ7.out; have := HK2.out; omega) (wrap64 (x10_2 + 1)) _ _ y371 _ _ y384 bq2 b_ _ (SF.args (SF.below HS.out (by have h_ := HB.out; rw [HW.out] at h_; exact h_)) HO373.out HO386.out) A25.out).mono ?_
            rintro e w49 ⟨rfl, hk, hbb⟩
            refine ⟨_, rfl, ?_⟩
            have HS2 := am (SF.step (SF.below HS.out (by have h_ := HB.out; rw [HW.out] at h_; exact h_)) hk hbb)
            have HK3 := am (KB.trans (KB.trans HKB.out (KB.of_below (by have h_ := HB.out; rw [HW.out] at h_; exact h_))) hk)
            clear hk hbb
            obtain ⟨ad9, e9, hz_0, hz_1, hz_2, hz_3, hz_4, hz_5⟩ := at_T48 (HS2.out.ll _ (Kept.refl _ _)) x10_2 (of_eq_true p380) (of_eq_true q380)
            obtain rfl : ad360 = ad9 := (by injection e9)
            refine hK.out _ _ ⟨(blk_cell HS2.out.bs 0).trans rfl, (blk_cell HS2.out.bl 0).trans rfl, hz_0, hz_1, hz_2, hz_3, hz_4, hz_5⟩ (fun hHeld => ?_)
            clear hK K
            refine nP ?_
            refine done_ (done_of HT_.out (by kernel_rfl)) ?_
            try go_wp2
            go_roundg k2
            case measure => have := HJ7.out; have := HK2.out; omega
            case rel => exact ⟨(wrap64 (x10_2 + 1)), b_, vv, H', ⟨by have := HJ7.out; have := HK2.out; omega⟩, ⟨HS2.out⟩, ⟨HK3.out⟩⟩
           rw [if_neg c24] at H
           exact absurd H (by simp)
          rw [if_neg c23] at H
          exact absurd H (by simp)
         rw [if_neg c22] at H
         exact absurd H (by simp)
        rw [if_neg c21] at H
        exact absurd H (by simp)
       replace c20 := Bool.eq_false_iff.mpr c20
       subst c20
       have H1 : (impl_MostBoats_1.l0 k2 l1 l2 (wrap64 (x10_2 + 1)) bq2 l4_0 a5_0 a5_1 a5_2) = some r := by rw [if_neg (show ¬ (false = true) by decide)] at H; exact H
       clear H
       have H := H1
       clear H1
       have H' := am H
       clear H
       have hnb50 := NB351_352.out
       have hnc50 := NB352_351.out
       have hnb51 := NB351_353.out
       have hnc51 := NB353_351.out
       obtain ⟨hcz52_0, hfz52_0⟩ := bx1 BK351
       try go_wp2
       replace BK351 := am (blk_drew BK351.out)
       replace BK352 := am (blk_drew BK352.out)
       replace BK353 := am (blk_drew BK353.out)
       replace HB := am (below_drew1 HB.out)
       have p360 : 0 ≤ (x10_2 : Int) := of_decide_eq_true (by first | (with_reducible assumption) | assumption)
       have q360 : x10_2 < (l4_0.length : Int) := of_decide_eq_true (by first | (with_reducible assumption) | assumption)
       obtain ⟨ad360, e360, hx360_0, hx360_1, hx360_2, hx360_3, hx360_4, hx360_5⟩ := at_T48 HR4_0.out x10_2 p360 q360
       have hw360_5 := hx360_5
       have hw360_4 := hx360_4
       have hw360_3 := hx360_3
       have hw360_2 := hx360_2
       have hw360_1 := hx360_1
       have hw360_0 := hx360_0
       cases e360
       replace hx360_0 := (HB.out.cell (World.block_lt_of_cell? w _ hx360_0)).trans hx360_0
       replace hx360_1 := (HB.out.cell (World.block_lt_of_cell? w _ hx360_1)).trans hx360_1
       replace hx360_2 := (HB.out.cell (World.block_lt_of_cell? w _ hx360_2)).trans hx360_2
       replace hx360_3 := (HB.out.cell (World.block_lt_of_cell? w _ hx360_3)).trans hx360_3
       replace hx360_4 := (HB.out.cell (World.block_lt_of_cell? w _ hx360_4)).trans hx360_4
       replace hx360_5 := (HB.out.cell (World.block_lt_of_cell? w _ hx360_5)).trans hx360_5
       replace p360 := eq_true p360
       replace q360 := eq_true q360
       refine start_ (n := 7) (S := fun w' => w'.cell? ⟨gy, 0, none⟩ = some (.int .i8 a5_0) ∧ w'.cell? ⟨gy, 1, none⟩ = some (.int .i8 a5_1) ∧ atCells w' gy a5_2 ∧ BayAt32 w' gy ∧ lvv w' gy = .agg (csBay a5_0 a5_1 a5_2) ∧ w'.cell? ⟨gl, 0, none⟩ = some (.slice (some ad360) l4_0.length c4_0) ∧ w'.cell? (ad360.add ((x10_2).toNat * 6)) = some (.int .i8 ((rd_T48 l4_0 x10_2).f0.f0)) ∧ w'.cell? ⟨(ad360.add ((x10_2).toNat * 6)).block, (ad360.add ((x10_2).toNat * 6)).off + 1, none⟩ = some (.int .i8 ((rd_T48 l4_0 x10_2).f0.f1)) ∧ w'.cell? ⟨(ad360.add ((x10_2).toNat * 6)).block, (ad360.add ((x10_2).toNat * 6)).off + 2, none⟩ = some (.int .i8 ((rd_T48 l4_0 x10_2).f1)) ∧ w'.cell? ⟨(ad360.add ((x10_2).toNat * 6)).block, (ad360.add ((x10_2).toNat * 6)).off + 3, none⟩ = some (.int .i8 ((rd_T48 l4_0 x10_2).f2)) ∧ w'.cell? ⟨(ad360.add ((x10_2).toNat * 6)).block, (ad360.add ((x10_2).toNat * 6)).off + 4, none⟩ = some (.int .i8 ((rd_T48 l4_0 x10_2).f3)) ∧ w'.cell? ⟨(ad360.add ((x10_2).toNat * 6)).block, (ad360.add ((x10_2).toNat * 6)).off + 5, none⟩ = some (.int .i8 ((rd_T48 l4_0 x10_2).f4))) (ds := []) #[false, false, false, false, false, false, false] (by kernel_rfl) rfl rfl ⟨cA BK352 0, cA BK352 1, at_cells BK352.out, BayAt32_of BK352.out, lvv_of BK352.out, cA BK351 0, cB HB hw360_0, cB HB hw360_1, cB HB hw360_2, cB HB hw360_3, cB HB hw360_4, cB HB hw360_5⟩ (fun hHeld => ?_)
       generalize wr.drew = w53 at BK351 BK352 BK353 HB hx360_0 hx360_1 hx360_2 hx360_3 hx360_4 hx360_5 hHeld ⊢
       refine pure_ (i := 1) (N := some 27) (v := ?_) (a' := ?_) #[false, true, false, false, false, false, false] rfl rfl (by kernel_rfl) (fun _ _ _ h => h) (Or.inl ⟨by rfl, ?_⟩) ?_ ?_
       rotate_left
       ·intro w'
        go_simp
        with_reducible rfl
       rotate_left
       ·simp only [Act.put, List.setIfInBounds_toArray, List.set_cons_zero, List.set_cons_succ, i64_w, i32_w]
        rfl
       refine pure_ (i := 3) (N := some 29) (v := ?_) (a' := ?_) #[false, true, false, true, false, false, false] rfl rfl (by kernel_rfl) (fun _ _ _ h => h) (Or.inl ⟨by rfl, ?_⟩) ?_ ?_
       rotate_left
       ·intro w'
        go_simp
        with_reducible rfl
       rotate_left
       ·simp only [Act.put, List.setIfInBounds_toArray, List.set_cons_zero, List.set_cons_succ, i64_w, i32_w]
        rfl
       refine take_ (i := 0) (N := some 26) (v := ?_) (a' := ?_) #[true, true, false, true, false, false, false] rfl rfl (by kernel_rfl) (fun _ _ _ h => h) (Or.inl ⟨by rfl, ?_⟩) hHeld ?_ ?_
       rotate_left
       ·rintro w' ⟨s0, s1, s2, s3, s4, s5, s6, s7, s8, s9, s10, s11⟩
        go_simp
        with_reducible rfl
       rotate_left
       ·simp only [Act.put, List.setIfInBounds_toArray, List.set_cons_zero, List.set_cons_succ, i64_w, i32_w]
        rfl
       refine take_ (i := 2) (N := some 28) (v := ?_) (a' := ?_) #[true, true, true, true, false, false, false] rfl rfl (by kernel_rfl) (fun _ _ _ h => h) (Or.inl ⟨by rfl, ?_⟩) hHeld ?_ ?_
       rotate_left
       ·rintro w' ⟨s0, s1, s2, s3, s4, s5, s6, s7, s8, s9, s10, s11⟩
        go_simp
        with_reducible rfl
       rotate_left
       ·simp only [Act.put, List.setIfInBounds_toArray, List.set_cons_zero, List.set_cons_succ, i64_w, i32_w]
        rfl
       refine pure_ (i := 4) (N := some 30) (v := ?_) (a' := ?_) #[true, true, true, true, true, false, false] rfl rfl (by kernel_rfl) (fun _ _ _ h => h) (Or.inl ⟨by rfl, ?_⟩) ?_ ?_
       rotate_left
       ·intro w'
        go_simp
        with_reducible rfl
       rotate_left
       ·simp only [Act.put, List.setIfInBounds_toArray, List.set_cons_zero, List.set_cons_succ, i64_w, i32_w]
        rfl
       refine take_ (i := 5) (N := some 31) (v := ?_) (a' := ?_) #[true, true, true, true, true, true, false] rfl rfl (by kernel_rfl) (fun _ _ _ h => h) (Or.inl ⟨by rfl, ?_⟩) hHeld ?_ ?_
       rotate_left
       ·rintro w' ⟨s0, s1, s2, s3, s4, s5, s6, s7, s8, s9, s10, s11⟩
        go_simp
        with_reducible rfl
       rotate_left
       ·simp only [Act.put, List.setIfInBounds_toArray, List.set_cons_zero, List.set_cons_succ, i64_w, i32_w]
        rfl
       refine one_ (i := 6) (N := some 32) #[true, true, true, true, true, true, true] rfl rfl (by kernel_rfl) (by decide) (fun K hK => ?_)
       refine goes_ Try.func20 (by kernel_rfl) rfl #[.agg (csBay a5_0 a5_1 a5_2), .slice A2 l2.length c2, .agg #[.int .i8 ((rd_T48 l4_0 x10_2).f0.f0), .int .i8 ((rd_T48 l4_0 x10_2).f0.f1), .int .i8 ((rd_T48 l4_0 x10_2).f1), .int .i8 ((rd_T48 l4_0 x10_2).f2), .int .i8 ((rd_T48 l4_0 x10_2).f3), .int .i8 ((rd_T48 l4_0 x10_2).f4)]] (by rfl) rfl rfl (by (try simp only [List.map_toArray, List.map_cons, List.map_nil]); first | done | rfl | (simp only [List.length_drop, List.length_take]; rfl)) ?_
       with_reducible refine (impl_comes.calls k2 a5_0 a5_1 a5_2 _ _ l2 ((rd_T48 l4_0 x10_2).f0.f0) ((rd_T48 l4_0 x10_2).f0.f1) ((rd_T48 l4_0 x10_2).f1) ((rd_T48 l4_0 x10_2).f2) ((rd_T48 l4_0 x10_2).f3) ((rd_T48 l4_0 x10_2).f4) false _ ?side1 ?side2 A19.out).mono ?_
       (case side1 => repeat (first | exact (Kd.C_below HR2.out HB.out) | (with_reducible refine Kd.C_alloc ?_ _) | (with_reducible refine Kd.C_drewN ?_ _) | (with_reducible refine Kd.C_drew ?_)))
       (case side2 => exact HC2.out)
       rintro e w54 ⟨rfl, hb⟩
       refine ⟨_, rfl, ?_⟩
       replace BK351 := bB BK351 hb
       replace BK352 := bB BK352 hb
       replace BK353 := bB BK353 hb
       replace HB := am (below_step (be HB) hb)
       (try clear hb)
       (try clear hb2)
       (try clear hk)
       (try clear hi)
       refine hK.out _ _ ⟨cA BK352 0, cA BK352 1, at_cells BK352.out, BayAt32_of BK352.out, lvv_of BK352.out, cA BK351 0, cB HB hw360_0, cB HB hw360_1, cB HB hw360_2, cB HB hw360_3, cB HB hw360_4, cB HB hw360_5⟩ (fun hHeld => ?_)
       clear hK K
       refine nP ?_
       refine done_ (by kernel_rfl) ?_
       try go_wp2
       go_roundg k2
       case measure => have := HJ7.out; have := HK2.out; omega
       case rel => exact ⟨(wrap64 (x10_2 + 1)), bq2, vv, H', ⟨by have := HJ7.out; have := HK2.out; omega⟩, ⟨(SF.below HS.out (by have h_ := HB.out; rw [HW.out] at h_; exact h_))⟩, ⟨KB.trans HKB.out (KB.of_below (by have h_ := HB.out; rw [HW.out] at h_; exact h_))⟩⟩
      rw [if_neg c18] at H
      exact absurd H (by simp)
     rw [if_neg c17] at H
     have c17b0 : decide (x10_2 < (l4_0.length : Int)) = false := decide_eq_false c17
     clear c17
     have hnb55 := NB351_352.out
     have hnc55 := NB352_351.out
     have hnb56 := NB351_353.out
     have hnc56 := NB353_351.out
     obtain ⟨hcz57_0, hfz57_0⟩ := bx1 BK351
     go_wp2
     first | go_end0 | ((try simp only [Exit.inBlock, Exit.then]); refine bodyPost_ret (results_none rfl _ _ _) rfl ?_)
     obtain rfl := Option.some.inj H
     obtain ⟨vb9, hb9, hr9⟩ := HS.out.bb
     exact ⟨by first | rfl | (simp; done), HKB.out, vb9, hb9, hr9⟩

end Go.Proofs.Ytigafbmdedjgdaa.PFnExactMostBoats
