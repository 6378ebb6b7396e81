-- Written by a program out of this seat's translation (functions, and that the code comes to them).
import Derived.Test.YtcollbifdfhfoaaPFnExactAllAfloatx0
import Derived.Test.YtcollbifdfhfoaaPFnExactAllAfloatx8
import Derived.Test.YtcollbifdfhfoaaPFnExactAllAfloatx9
import Derived.Test.YtcollbifdfhfoaaPFnExactAllAfloatx10
import Derived.Test.YtcollbifdfhfoaaPFnExactAllAfloatx11
namespace Go.Proofs.Ytcollbifdfhfoaa.PFnExactAllAfloat
open Go.RowKit Go.Proofs.YtcollbifdfhfoaaW.PrintWords Go.Proofs.YtcollbifdfhfoaaW.PrintLast Go.Proofs.YtcollbifdfhfoaaW.PrintMore
attribute [local go_sem] max2_int min2_int max_two min_two max_three min_three max_four min_four   -- for this text's walks alone
open Go.Proofs.Ytcollbifdfhfoaa.Bay Go.Proofs.Ytcollbifdfhfoaa.Short
attribute [local go_sem ↓] lv26_eq lv28_eq
attribute [local go_sem] lvv_set lvv_drewN lvv_drew lv26_run BayAt26_set BayAt26_drewN BayAt26_drew lv28_run BayAt28_set BayAt28_drewN BayAt28_drew
set_option linter.unusedVariables false
set_option linter.unusedSimpArgs false

/-! ### impl_windows: function 158 -/
theorem gateV {P : Program} {ops : Array Oper} {Q : Exit → Act → World → Prop} {rest : List Oper} {o : Oper} {a : Act} {W : World} {x : Tmp} {os_ : Array Operand} {ts : Array TypeId} (_ho : o.op = .call { callee := .value (.tmp x), args := os_, argTypes := ts }) (h : wpList P ops Q (o :: rest) a W) : wpList P ops Q (o :: rest) a W := h
theorem goesV {P : Program} {ops : Array Oper} {Q : Exit → Act → World → Prop} {rest : List Oper} {oi : Oper} {a : Act} {w : World} (N : Option Tmp) (x : Tmp) (hd : oi.dst = N) (hg : oi.guard = none) {f : FuncId} {fn : Func} {os_ : Array Operand} {ts : Array TypeId} (hf : P.funcs[f]? = some fn) (hname : (fn.name == "runtime.NumGoroutine") = false) (hb : fn.body.isSome = true) (caps args0 args : Array Value)
  (hop : oi.op = .call { callee := .value (.tmp x), args := os_, argTypes := ts }) (hv : a.eval (.tmp x) = .func (.func f) #[] caps) (hargs : os_.map a.eval = args0) (hall : args0 ++ caps = args)
  (h : Calls P f args w fun e w' => ∃ v, e = .returned v ∧ wpList P ops Q rest (a.put N v) w') : wpList P ops Q (oi :: rest) a w := by
 refine wpList_plain hg fun K hK => ?_
 have he := enters_ hf hname hb args w
 have hrun : (execOp a.eval oi).run P w = .ok (.enter f args) w := by
  unfold execOp
  simp only [hop, resolve, hv]
  have h2 : Array.map a.eval os_ ++ caps = args := by rw [hargs]; exact hall
  simp [Deferred.ofValue, invoke, h2, he]
 unfold Oper.wp
 rw [hrun, Oper.upon_enter]
 refine h.mono fun e w'' hh => ?_
 obtain ⟨v, rfl, hk⟩ := hh
 subst hd
 exact hK _ _ hk
def impl_windows.l0 (cf : Int → Option Bool) : Nat → List (S103) → List (S82) → Int → Int → Option ((List (S82)))
 | 0, _, _, _, _ => none
 | k + 1, x0, x5, x7, x8 => if x8 ≤ x7 then ((impl_height.f k x0 x8).bind fun t328 => ((cf t328).bind fun t329 => (if t329 = true then (if (x5.length : Int) > 0 then (if 0 ≤ (wrap64 ((x5.length : Int) - 1)) then (if (wrap64 ((x5.length : Int) - 1)) < (x5.length : Int) then (if ((rd_T82 x5 (wrap64 ((x5.length : Int) - 1))).f1) = (wrap64 (x8 - 1)) then (impl_windows.l0 cf k x0 (x5.set ((wrap64 ((x5.length : Int) - 1)) : Int).toNat (⟨(rd_T82 x5 (wrap64 ((x5.length : Int) - 1))).f0, x8⟩ : S82)) x7 (wrap64 (x8 + 1))) else (if x5.length < 8796093022208 then (impl_windows.l0 cf k x0 (x5 ++ [(⟨x8, x8⟩ : S82)]) x7 (wrap64 (x8 + 1))) else (none))) else (none)) else (none)) else (if x5.length < 8796093022208 then (impl_windows.l0 cf k x0 (x5 ++ [(⟨x8, x8⟩ : S82)]) x7 (wrap64 (x8 + 1))) else (none))) else (impl_windows.l0 cf k x0 x5 x7 (wrap64 (x8 + 1)))))) else (some x5)
def impl_windows.f (cf : Int → Option Bool) (k : Nat) (l0 : List (S103)) : Option ((List (S82))) := (impl_span.f l0).bind fun bt326 => (impl_windows.l0 cf k l0 (([] : List (S82))) bt326.2 bt326.1)
set_option maxHeartbeats 8000000 in
set_option maxRecDepth 100000 in
theorem impl_windows.calls (cf : Int → Option Bool) (b1 b2 : Nat) (k : Nat) (A0 : Option Addr) (c0 : Nat) (l0 : List (S103)) (r : List (S82)) (w : World) (hcf : ∀ (W : World) (h : Int) (r : Bool), Below w.heap.size w W → cf h = some r → Calls Try.prog 159 #[.int .i64 h, .pointer (some ⟨b1, 0, none⟩), .pointer (some ⟨b2, 0, none⟩)] W fun e w' => e = .returned (.bool r) ∧ Below W.heap.size W w') (hr0 : Kd.C k103 w A0 l0.length l0) (hc0 : l0.length ≤ c0) (h : impl_windows.f cf k l0 = some r) :
  Calls Try.prog 158 #[.slice A0 l0.length c0, .func (.func 159) #[] #[.pointer (some ⟨b1, 0, none⟩), .pointer (some ⟨b2, 0, none⟩)]] w fun e w' => ∃ v0_ : Value, e = .returned (v0_) ∧ Kd.R k82 82 w' w.heap.size (fun _ => True) v0_ r ∧ Below w.heap.size w w' := by
 have hu82 := Try.underlying82
 have HCF := am hcf
 clear hcf
 have HR0 := am hr0
 have HC0 := am hc0
 clear hr0 hc0
 have HB := am (Below.refl w.heap.size w)
 have H : ((impl_span.f l0).bind fun bt326 => (impl_windows.l0 cf k l0 (([] : List (S82))) bt326.2 bt326.1)) = some r := h
 clear h
 obtain ⟨y323, hy323⟩ : ∃ y_ : List (S82), y_ = (([] : List (S82))) := ⟨_, rfl⟩
 replace H : ((impl_span.f l0).bind fun bt326 => (impl_windows.l0 cf k l0 y323 bt326.2 bt326.1)) = some r := by first | (rw [hy323]; with_reducible exact H) | (have H2_ := (Option.bind_some _ _).symm.trans H; rw [hy323]; with_reducible exact H2_) | (have H2_ := (Option.bind_some _ _).symm.trans H; with_reducible exact H2_) | with_reducible exact H | (rw [hy323]; exact H) | exact H
 have Ny323 := am hy323
 clear hy323
 replace H := Option.bind_eq_some_iff.mp H
 obtain ⟨⟨t326, t327⟩, A20, H⟩ := H
 try dsimp only at H
 have A2 := am A20
 clear A20
 have H' := am H
 clear H
 go_enter Try.func158, Try.ntmps158
 go_wp2_with (first | ((with_reducible refine gate_dst (N := 10) rfl ?_); refine Kd.R_lit k82 _ 82 ?hg (N := 10) ?hd (xs := ([] : List (S82))) (inner := []) (ok := fun _ => True) (okp := fun _ => True) ?hr ?hp (fun _ hk => hk) trivial (Below.refl _ _) (Nat.le_refl _) (by simp) ?_; (case hd => rfl); (case hg => rfl); (case hr => first | (go_simp; done) | (go_simp; rfl)); (case hp => exact (Reps.none _ _)); intro v324 w3 ho4 hb hg_ hnew_; clear hg_ hnew_; (first | rw [← Ny323.out] at ho4 | (simp only [Int.reduceToNat] at ho4; rw [← Ny323.out] at ho4)); have HO325 := am (Kd.R_lower ho4 (below_size (be HB))); replace HB := am (below_step (be HB) hb); clear hb ho4) | ((with_reducible refine gate_callee (f := 149) rfl ?_); refine gL (some 13) Try.func149 #[.slice A0 l0.length c0] ?_; (with_reducible refine (impl_span.calls _ _ l0 t326 t327 _ ?side1 ?side2 A2.out).mono ?_); (case side1 => repeat (first | exact (Kd.C_below HR0.out HB.out) | (with_reducible refine Kd.C_alloc ?_ _) | (with_reducible refine Kd.C_drewN ?_ _) | (with_reducible refine Kd.C_drew ?_))); (case side2 => exact HC0.out); rintro e w' ⟨rfl, ⟨nd, rfl⟩⟩; refine ⟨_, rfl, ?_⟩))
 go_loopg [5, 8] k (fun kq v5 v8 w' => ∃ (x5_1 : List (S82)) (x8_1 : Int), v8 = .int .i64 x8_1 ∧ Aside0 (impl_windows.l0 cf kq l0 x5_1 t327 x8_1 = some r) ∧ Aside0 (kq ≤ k) ∧ Aside0 (Kd.R k82 82 w' w.heap.size (fun _ => True) v5 x5_1) ∧ Aside0 (Below w.heap.size w w'))
 case atStart => exact ⟨(y323), (t326), vx, H', ⟨Nat.le_refl _⟩, ⟨kr HO325⟩, ⟨be HB⟩⟩
 case round =>
  clear H'
  try clear c1
  try clear p2
  obtain ⟨x5_1, x8_1, rfl, HA, HK1, HO_5, HB⟩ := hrel
  cases gk with
  | zero => exact absurd HA.out (by simp [impl_windows.l0])
  | succ k1 =>
   have H := HA.out
   clear HA
   simp only [impl_windows.l0] at H
   by_cases c5 : x8_1 ≤ t327
   ·rw [if_pos c5] at H
    have c5b0 : decide (x8_1 ≤ t327) = true := decide_eq_true c5
    clear c5
    replace H := Option.bind_eq_some_iff.mp H
    obtain ⟨t328, A60, H⟩ := H
    try dsimp only at H
    have A6 := am A60
    clear A60
    replace H := Option.bind_eq_some_iff.mp H
    obtain ⟨t329, A70, H⟩ := H
    try dsimp only at H
    have A7 := am A70
    clear A70
    by_cases c8 : t329 = true
    ·subst c8
     rw [if_pos rfl] at H
     by_cases c9 : (x5_1.length : Int) > 0
     ·rw [if_pos c9] at H
      have c9b0 : decide (0 < (x5_1.length : Int)) = true := decide_eq_true c9
      have c9b1 : decide (0 < x5_1.length) = true := decide_eq_true (by omega)
      clear c9
      obtain ⟨ji10, hji10⟩ : ∃ j_ : Int, (wrap64 ((x5_1.length : Int) - 1)) = j_ := ⟨_, rfl⟩
      replace H : (if 0 ≤ (ji10) then (if (ji10) < (x5_1.length : Int) then (if ((rd_T82 x5_1 (ji10)).f1) = (wrap64 (x8_1 - 1)) then (impl_windows.l0 cf k1 l0 (x5_1.set ((ji10) : Int).toNat (⟨(rd_T82 x5_1 (ji10)).f0, x8_1⟩ : S82)) t327 (wrap64 (x8_1 + 1))) else (if x5_1.length < 8796093022208 then (impl_windows.l0 cf k1 l0 (x5_1 ++ [(⟨x8_1, x8_1⟩ : S82)]) t327 (wrap64 (x8_1 + 1))) else (none))) else (none)) else (none)) = some r := by first | (rw [hji10] at H; exact H) | (simp only [hji10] at H ⊢; exact H)
      (try rw [hji10] at A6)
      (try rw [hji10] at A7)
      have hji10w : (IntKind.i64.wrap ((x5_1.length : Int) - 1)) = ji10 := (i64_w _).trans hji10
      by_cases c11 : 0 ≤ (ji10)
      ·rw [if_pos c11] at H
       have c11b0 : decide (0 ≤ (ji10)) = true := decide_eq_true c11
       have c11b1 : 0 ≤ (ji10) := c11
       clear c11
       by_cases c12 : (ji10) < (x5_1.length : Int)
       ·rw [if_pos c12] at H
        have c12b0 : decide ((ji10) < (x5_1.length : Int)) = true := decide_eq_true c12
        clear c12
        by_cases c13 : ((rd_T82 x5_1 (ji10)).f1) = (wrap64 (x8_1 - 1))
        ·rw [if_pos c13] at H
         have c13b0 : (((rd_T82 x5_1 (ji10)).f1) == (wrap64 (x8_1 - 1))) = true := beq_iff_eq.mpr c13
         have c13b1 : (((rd_T82 x5_1 (ji10)).f1) != (wrap64 (x8_1 - 1))) = false := bne_eq_false_iff_eq.mpr c13
         clear c13
         obtain ⟨y331, hy331⟩ : ∃ y_ : List (S82), y_ = (x5_1.set ((ji10) : Int).toNat (⟨(rd_T82 x5_1 (ji10)).f0, x8_1⟩ : S82)) := ⟨_, rfl⟩
         replace H : (impl_windows.l0 cf k1 l0 y331 t327 (wrap64 (x8_1 + 1))) = some r := by first | (rw [hy331]; with_reducible exact H) | (have H2_ := (Option.bind_some _ _).symm.trans H; rw [hy331]; with_reducible exact H2_) | (have H2_ := (Option.bind_some _ _).symm.trans H; with_reducible exact H2_) | with_reducible exact H | (rw [hy331]; exact H) | exact H
         have Ny331 := am hy331
         clear hy331
         have H' := am H
         clear H
         go_wp2_with (first | ((with_reducible refine gate_callee (f := 151) rfl ?_); refine gL (some 25) Try.func151 #[.slice A0 l0.length c0, .int .i64 x8_1] ?_; (with_reducible refine (impl_height.calls k1 _ _ l0 x8_1 t328 _ ?side1 ?side2 A6.out).mono ?_); (case side1 => repeat (first | exact (Kd.C_below HR0.out HB.out) | (with_reducible refine Kd.C_alloc ?_ _) | (with_reducible refine Kd.C_drewN ?_ _) | (with_reducible refine Kd.C_drew ?_))); (case side2 => exact HC0.out); rintro e w15 ⟨rfl, hb⟩; refine ⟨_, rfl, ?_⟩; replace HO_5 := am (Kd.R_below (kr HO_5) hb); replace HB := am (below_step (be HB) hb); (try clear hb); (try clear hb2); (try clear hk); (try clear hi)) | ((with_reducible refine gateV (x := 22) rfl ?_); refine goesV (some 26) 22 rfl rfl Try.func159 (by kernel_rfl) rfl #[.pointer (some ⟨b1, 0, none⟩), .pointer (some ⟨b2, 0, none⟩)] #[.int .i64 t328] #[.int .i64 t328, .pointer (some ⟨b1, 0, none⟩), .pointer (some ⟨b2, 0, none⟩)] rfl rfl (by (try simp only [List.map_toArray, List.map_cons, List.map_nil]); first | done | rfl) (by simp) ?_; (with_reducible refine (HCF.out _ t328 true ?hbel A7.out).mono ?_); (case hbel => exact be HB); rintro e w16 ⟨rfl, hb⟩; refine ⟨_, rfl, ?_⟩; replace HO_5 := am (Kd.R_below (kr HO_5) hb); replace HB := am (below_step (be HB) hb); (try clear hb); (try clear hb2); (try clear hk); (try clear hi); obtain ⟨Ao17, co17, eo17⟩ := Kd.R_slice HO_5.out; subst eo17; have p330 : 0 ≤ ((ji10) : Int) := of_decide_eq_true (by first | (with_reducible assumption) | assumption); have q330 : (ji10) < (x5_1.length : Int) := of_decide_eq_true (by first | (with_reducible assumption) | assumption); obtain ⟨ad330, e330, hx330_0, hx330_1⟩ := at_T82 (Kd.R_reads' HO_5.out).2.2 (ji10) p330 q330; cases e330; replace p330 := eq_true p330; replace q330 := eq_true q330; have p14 : 0 ≤ ((ji10) : Int) := of_decide_eq_true (by first | (with_reducible assumption) | assumption); have q14 : ((ji10) : Int) < ((x5_1.length : Int) : Int) := of_decide_eq_true (by first | (with_reducible assumption) | assumption); obtain ⟨go14, co14, eo14, gb14, gl14, cl14, HG14⟩ := Kd.R_form HO_5.out (by omega); (first | cases eo14 | (injection eo14 with ea_ en_ ec_; (first | subst ea_ | (injection ea_ with ea_; subst ea_)); subst ec_; clear en_)); have GB14 := am gb14; have GG14 := am HG14; clear gb14 gl14 HG14; (first | simp only [add_plain] at hx330_0 | skip); (first | simp only [add_plain] at hx330_1 | skip); obtain ⟨ce14, hcl14, hM14, hcc14, hfr14⟩ := Kd.R_elem HO_5.out z82 ((ji10) : Int) p14 q14; obtain rfl := k82_openM hM14; have hx14_0 : w16.cell? ⟨go14, ((ji10) : Int).toNat * 2, none⟩ = some (.int .i64 ((rd_T82 x5_1 (ji10)).f0)) := hcc14 0 _ rfl; have hx14_1 : w16.cell? ⟨go14, ((ji10) : Int).toNat * 2 + 1, none⟩ = some (.int .i64 ((rd_T82 x5_1 (ji10)).f1)) := hcc14 1 _ rfl; have hf14_0 : w16.frozen? ⟨go14, ((ji10) : Int).toNat * 2, none⟩ = false := hfr14 0; have hf14_1 : w16.frozen? ⟨go14, ((ji10) : Int).toNat * 2 + 1, none⟩ = false := hfr14 1; clear hcl14 hcc14 hfr14 hM14; replace p14 := eq_true p14; replace q14 := eq_true q14; have HX18 := am (show Kd.R k82 82 w16 w.heap.size (fun _ => True) (.slice (some ⟨go14, 0, none⟩) x5_1.length co17) x5_1 from (kr HO_5)); obtain ⟨ce18, hcl18, hM18, hcc18, hfr18⟩ := Kd.R_elem HX18.out z82 ((ji10) : Int) (of_decide_eq_true (by first | (with_reducible assumption) | assumption)) (by have h_ : ((ji10) : Int) < ((x5_1.length : Int) : Int) := of_decide_eq_true (by first | (with_reducible assumption) | assumption); first | exact h_ | (have e_ := (Kd.R_reads' HO_5.out).1; omega) | simpa using h_); obtain rfl := k82_openM hM18; have HP18 := Kd.R_seg HX18.out ((ji10) : Int) (of_decide_eq_true (by first | (with_reducible assumption) | assumption)) (by have h_ : ((ji10) : Int) < ((x5_1.length : Int) : Int) := of_decide_eq_true (by first | (with_reducible assumption) | assumption); first | exact h_ | (have e_ := (Kd.R_reads' HO_5.out).1; omega) | simpa using h_) (seg := [.int .i64 x8_1]) (j := 1) hcl18 hcc18 (show 2 ≤ 2 from by decide) (x' := (⟨(rd_T82 x5_1 (ji10)).f0, x8_1⟩ : S82)) (k82_mkM _ _ _ (⟨(rd_T82 x5_1 (ji10)).f0, x8_1⟩ : S82) ) (fun _ hk => hk); have hx18_1 := hcc18 1 _ rfl; (try simp only [show (k82).sz = 2 from rfl, Nat.mul_one, Nat.add_zero] at hx18_1); have hf18_1 := hfr18 1; (try simp only [show (k82).sz = 2 from rfl, Nat.mul_one, Nat.add_zero] at hf18_1); clear hcl18 hcc18 hfr18 hM18) | ((with_reducible refine gate_store (t := 2) (p := 48) rfl ?_); refine store_event (t := 2) (p := 48) (v := ?vo_w19) (w1 := (w16.setCell ⟨go14, ((ji10) : Int).toNat * 2 + 1, none⟩ (.int .i64 x8_1))) ?hg ?ho ?hn ?hr ?_; (case ho => rfl); (case hg => rfl); (case hn => rfl); (case hr => first | (go_simp; done) | (go_simp; rfl)); intro w19 hw; have hg : w16.grownBy w19 (some go14) := (by rw [hw]; exact HP18.2); have hp_ : Kd.R k82 82 w19 w.heap.size (fun _ => True) (.slice (some ⟨go14, 0, none⟩) x5_1.length co17) y331 := (by rw [hw, Ny331.out]; exact HP18.1); clear HP18; replace HO_5 := am (hp_); replace HB := am ((by rw [hw]; exact below_set (HB.out) GB14.out : Below w.heap.size w w19)); clear hg hw hp_))
         go_roundg k1
         case measure => have := HK1.out; omega
         case rel => exact ⟨(y331), (wrap64 (x8_1 + 1)), vx, H', ⟨by have := HK1.out; omega⟩, ⟨kr HO_5⟩, ⟨be HB⟩⟩
        ·rw [if_neg c13] at H
         have c13b0 : (((rd_T82 x5_1 (ji10)).f1) == (wrap64 (x8_1 - 1))) = false := beq_eq_false_iff_ne.mpr c13
         have c13b1 : (((rd_T82 x5_1 (ji10)).f1) != (wrap64 (x8_1 - 1))) = true := bne_iff_ne.mpr c13
         by_cases c20 : x5_1.length < 8796093022208
         ·rw [if_pos c20] at H
          have LMc20 := am c20
          clear c20
          obtain ⟨y332, hy332⟩ : ∃ y_ : List (S82), y_ = (x5_1 ++ [(⟨x8_1, x8_1⟩ : S82)]) := ⟨_, rfl⟩
          replace H : (impl_windows.l0 cf k1 l0 y332 t327 (wrap64 (x8_1 + 1))) = some r := by first | (rw [hy332]; with_reducible exact H) | (have H2_ := (Option.bind_some _ _).symm.trans H; rw [hy332]; with_reducible exact H2_) | (have H2_ := (Option.bind_some _ _).symm.trans H; with_reducible exact H2_) | with_reducible exact H | (rw [hy332]; exact H) | exact H
          have Ny332 := am hy332
          clear hy332
          have H' := am H
          clear H
          go_wp2_with (first | ((with_reducible refine gate_callee (f := 151) rfl ?_); refine gL (some 25) Try.func151 #[.slice A0 l0.length c0, .int .i64 x8_1] ?_; (with_reducible refine (impl_height.calls k1 _ _ l0 x8_1 t328 _ ?side1 ?side2 A6.out).mono ?_); (case side1 => repeat (first | exact (Kd.C_below HR0.out HB.out) | (with_reducible refine Kd.C_alloc ?_ _) | (with_reducible refine Kd.C_drewN ?_ _) | (with_reducible refine Kd.C_drew ?_))); (case side2 => exact HC0.out); rintro e w21 ⟨rfl, hb⟩; refine ⟨_, rfl, ?_⟩; replace HO_5 := am (Kd.R_below (kr HO_5) hb); replace HB := am (below_step (be HB) hb); (try clear hb); (try clear hb2); (try clear hk); (try clear hi)) | ((with_reducible refine gateV (x := 22) rfl ?_); refine goesV (some 26) 22 rfl rfl Try.func159 (by kernel_rfl) rfl #[.pointer (some ⟨b1, 0, none⟩), .pointer (some ⟨b2, 0, none⟩)] #[.int .i64 t328] #[.int .i64 t328, .pointer (some ⟨b1, 0, none⟩), .pointer (some ⟨b2, 0, none⟩)] rfl rfl (by (try simp only [List.map_toArray, List.map_cons, List.map_nil]); first | done | rfl) (by simp) ?_; (with_reducible refine (HCF.out _ t328 true ?hbel A7.out).mono ?_); (case hbel => exact be HB); rintro e w22 ⟨rfl, hb⟩; refine ⟨_, rfl, ?_⟩; replace HO_5 := am (Kd.R_below (kr HO_5) hb); replace HB := am (below_step (be HB) hb); (try clear hb); (try clear hb2); (try clear hk); (try clear hi); obtain ⟨Ao23, co23, eo23⟩ := Kd.R_slice HO_5.out; subst eo23; have p330 : 0 ≤ ((ji10) : Int) := of_decide_eq_true (by first | (with_reducible assumption) | assumption); have q330 : (ji10) < (x5_1.length : Int) := of_decide_eq_true (by first | (with_reducible assumption) | assumption); obtain ⟨ad330, e330, hx330_0, hx330_1⟩ := at_T82 (Kd.R_reads' HO_5.out).2.2 (ji10) p330 q330; cases e330; replace p330 := eq_true p330; replace q330 := eq_true q330) | ((with_reducible refine gate_builtin (b := .append) (xs := #[.tmp 49, .tmp 53]) rfl ?_); at_builtin; refine Kd.R_append k82 (w0 := w) w.heap.size rfl (.tmp 49) (.tmp 53) 61 82 (.agg #[(.int .i64 0), (.int .i64 0)]) 16 rfl Try.underlying61 info82 rfl (by decide) (by omega) (.slice (some ad330) x5_1.length co23) x5_1 (⟨x8_1, x8_1⟩ : S82) [.int .i64 x8_1, .int .i64 x8_1] (fun _ => True) (fun _ => False) rfl rfl ?aP (fun _ hk => hk.elim) ?aF ?aO ?aB ?aS ?aL ?_; (case aP => exact k82_mkM _ _ _ (⟨x8_1, x8_1⟩ : S82)); (case aB => exact (be HB)); (case aF => exact (fun _ _ => trivial)); (case aO => exact (kr HO_5)); (case aS => exact (below_size (be HB))); (case aL => have := LMc20.out; omega); intro v333 w24 ho hb hg hat; rw [← Ny332.out] at ho; have HO334 := am (ho); replace HB := am (hb); clear HO_5; clear ho hb hg hat))
          go_roundg k1
          case measure => have := HK1.out; omega
          case rel => exact ⟨(y332), (wrap64 (x8_1 + 1)), vx, H', ⟨by have := HK1.out; omega⟩, ⟨kr HO334⟩, ⟨be HB⟩⟩
         ·rw [if_neg c20] at H
          exact absurd H (by simp)
       ·rw [if_neg c12] at H
        exact absurd H (by simp)
      ·rw [if_neg c11] at H
       exact absurd H (by simp)
     ·rw [if_neg c9] at H
      have c9b0 : decide (0 < (x5_1.length : Int)) = false := decide_eq_false c9
      have c9b1 : decide (0 < x5_1.length) = false := decide_eq_false (by omega)
      clear c9
      by_cases c25 : x5_1.length < 8796093022208
      ·rw [if_pos c25] at H
       have LMc25 := am c25
       clear c25
       obtain ⟨y335, hy335⟩ : ∃ y_ : List (S82), y_ = (x5_1 ++ [(⟨x8_1, x8_1⟩ : S82)]) := ⟨_, rfl⟩
       replace H : (impl_windows.l0 cf k1 l0 y335 t327 (wrap64 (x8_1 + 1))) = some r := by first | (rw [hy335]; with_reducible exact H) | (have H2_ := (Option.bind_some _ _).symm.trans H; rw [hy335]; with_reducible exact H2_) | (have H2_ := (Option.bind_some _ _).symm.trans H; with_reducible exact H2_) | with_reducible exact H | (rw [hy335]; exact H) | exact H
       have Ny335 := am hy335
       clear hy335
       have H' := am H
       clear H
       go_wp2_with (first | ((with_reducible refine gate_callee (f := 151) rfl ?_); refine gL (some 25) Try.func151 #[.slice A0 l0.length c0, .int .i64 x8_1] ?_; (with_reducible refine (impl_height.calls k1 _ _ l0 x8_1 t328 _ ?side1 ?side2 A6.out).mono ?_); (case side1 => repeat (first | exact (Kd.C_below HR0.out HB.out) | (with_reducible refine Kd.C_alloc ?_ _) | (with_reducible refine Kd.C_drewN ?_ _) | (with_reducible refine Kd.C_drew ?_))); (case side2 => exact HC0.out); rintro e w26 ⟨rfl, hb⟩; refine ⟨_, rfl, ?_⟩; replace HO_5 := am (Kd.R_below (kr HO_5) hb); replace HB := am (below_step (be HB) hb); (try clear hb); (try clear hb2); (try clear hk); (try clear hi)) | ((with_reducible refine gateV (x := 22) rfl ?_); refine goesV (some 26) 22 rfl rfl Try.func159 (by kernel_rfl) rfl #[.pointer (some ⟨b1, 0, none⟩), .pointer (some ⟨b2, 0, none⟩)] #[.int .i64 t328] #[.int .i64 t328, .pointer (some ⟨b1, 0, none⟩), .pointer (some ⟨b2, 0, none⟩)] rfl rfl (by (try simp only [List.map_toArray, List.map_cons, List.map_nil]); first | done | rfl) (by simp) ?_; (with_reducible refine (HCF.out _ t328 true ?hbel A7.out).mono ?_); (case hbel => exact be HB); rintro e w27 ⟨rfl, hb⟩; refine ⟨_, rfl, ?_⟩; replace HO_5 := am (Kd.R_below (kr HO_5) hb); replace HB := am (below_step (be HB) hb); (try clear hb); (try clear hb2); (try clear hk); (try clear hi); obtain ⟨Ao28, co28, eo28⟩ := Kd.R_slice HO_5.out; subst eo28) | ((with_reducible refine gate_builtin (b := .append) (xs := #[.tmp 49, .tmp 53]) rfl ?_); at_builtin; refine Kd.R_append k82 (w0 := w) w.heap.size rfl (.tmp 49) (.tmp 53) 61 82 (.agg #[(.int .i64 0), (.int .i64 0)]) 16 rfl Try.underlying61 info82 rfl (by decide) (by omega) (.slice Ao28 x5_1.length co28) x5_1 (⟨x8_1, x8_1⟩ : S82) [.int .i64 x8_1, .int .i64 x8_1] (fun _ => True) (fun _ => False) rfl rfl ?aP (fun _ hk => hk.elim) ?aF ?aO ?aB ?aS ?aL ?_; (case aP => exact k82_mkM _ _ _ (⟨x8_1, x8_1⟩ : S82)); (case aB => exact (be HB)); (case aF => exact (fun _ _ => trivial)); (case aO => exact (kr HO_5)); (case aS => exact (below_size (be HB))); (case aL => have := LMc25.out; omega); intro v336 w29 ho hb hg hat; rw [← Ny335.out] at ho; have HO337 := am (ho); replace HB := am (hb); clear HO_5; clear ho hb hg hat))
       go_roundg k1
       case measure => have := HK1.out; omega
       case rel => exact ⟨(y335), (wrap64 (x8_1 + 1)), vx, H', ⟨by have := HK1.out; omega⟩, ⟨kr HO337⟩, ⟨be HB⟩⟩
      ·rw [if_neg c25] at H
       exact absurd H (by simp)
    ·replace c8 := Bool.eq_false_iff.mpr c8
     subst c8
     have H1 : (impl_windows.l0 cf k1 l0 x5_1 t327 (wrap64 (x8_1 + 1))) = some r := by rw [if_neg (show ¬ (false = true) by decide)] at H; exact H
     clear H
     have H := H1
     clear H1
     have H' := am H
     clear H
     go_wp2_with (first | ((with_reducible refine gate_callee (f := 151) rfl ?_); refine gL (some 25) Try.func151 #[.slice A0 l0.length c0, .int .i64 x8_1] ?_; (with_reducible refine (impl_height.calls k1 _ _ l0 x8_1 t328 _ ?side1 ?side2 A6.out).mono ?_); (case side1 => repeat (first | exact (Kd.C_below HR0.out HB.out) | (with_reducible refine Kd.C_alloc ?_ _) | (with_reducible refine Kd.C_drewN ?_ _) | (with_reducible refine Kd.C_drew ?_))); (case side2 => exact HC0.out); rintro e w30 ⟨rfl, hb⟩; refine ⟨_, rfl, ?_⟩; replace HO_5 := am (Kd.R_below (kr HO_5) hb); replace HB := am (below_step (be HB) hb); (try clear hb); (try clear hb2); (try clear hk); (try clear hi)) | ((with_reducible refine gateV (x := 22) rfl ?_); refine goesV (some 26) 22 rfl rfl Try.func159 (by kernel_rfl) rfl #[.pointer (some ⟨b1, 0, none⟩), .pointer (some ⟨b2, 0, none⟩)] #[.int .i64 t328] #[.int .i64 t328, .pointer (some ⟨b1, 0, none⟩), .pointer (some ⟨b2, 0, none⟩)] rfl rfl (by (try simp only [List.map_toArray, List.map_cons, List.map_nil]); first | done | rfl) (by simp) ?_; (with_reducible refine (HCF.out _ t328 false ?hbel A7.out).mono ?_); (case hbel => exact be HB); rintro e w31 ⟨rfl, hb⟩; refine ⟨_, rfl, ?_⟩; replace HO_5 := am (Kd.R_below (kr HO_5) hb); replace HB := am (below_step (be HB) hb); (try clear hb); (try clear hb2); (try clear hk); (try clear hi)))
     go_roundg k1
     case measure => have := HK1.out; omega
     case rel => exact ⟨(x5_1), (wrap64 (x8_1 + 1)), vx, H', ⟨by have := HK1.out; omega⟩, ⟨kr HO_5⟩, ⟨be HB⟩⟩
   ·rw [if_neg c5] at H
    have c5b0 : decide (x8_1 ≤ t327) = false := decide_eq_false c5
    clear c5
    obtain rfl := Option.some.inj H
    go_wp2
    go_ret
    exact ⟨_, by first | rfl | (simp [errW_none, errW_some] <;> rfl) | (simp [*, errW_none, errW_some] <;> rfl), by (with_reducible repeat (first | apply Kd.R_alloc | apply Kd.R_drewN | apply Kd.R_drew)); exact HO_5.out, be HB⟩

/-! ### impl_afloat: function 150 -/
def impl_afloat.f (a0_0 : Int) (a0_1 : Int) (a0_2 : (Nat → Int)) (a1_0 : Int) (a1_1 : Int) (a1_2 : Int) (a1_3 : Int) (a1_4 : Int) (a1_5 : Int) (a2 : Int) : Option (Bool) := (impl_depth.f a0_0 a0_1 a0_2 a1_0 a1_1).bind fun t340 => (some (decide ((wrap64 (t340 + a2)) ≥ (wrap64 (a1_4)))))
def impl_afloat.T1 : Bool × List (List Nat × List Nat) := (true, [([], []), ([], []), ([1], [1]), ([0, 2], [0, 2]), ([], []), ([3, 4], [3, 4]), ([], []), ([6], [6]), ([7], [7]), ([5, 8], [5, 8]), ([9, 3, 0, 1, 2, 3, 4, 5, 6, 7, 8, 9], [9])])
def impl_afloat.B1 : List Nat := [0, 0, 2, 7, 0, 31, 0, 64, 192, 511, 1023]
theorem impl_afloat.tab1 : rtab .any (opsOf Try.f150 1) = impl_afloat.T1 := by kernel_rfl
theorem impl_afloat.bits1 : waitsOk impl_afloat.T1.2 impl_afloat.B1 = true := by kernel_rfl
set_option maxHeartbeats 8000000 in
set_option maxRecDepth 100000 in
theorem impl_afloat.calls (a0_0 : Int) (a0_1 : Int) (a0_2 : (Nat → Int)) (a1_0 : Int) (a1_1 : Int) (a1_2 : Int) (a1_3 : Int) (a1_4 : Int) (a1_5 : Int) (a2 : Int) (r : Bool) (w : World) (h : impl_afloat.f a0_0 a0_1 a0_2 a1_0 a1_1 a1_2 a1_3 a1_4 a1_5 a2 = some r) :
  Calls Try.prog 150 #[.agg (csBay a0_0 a0_1 a0_2), .agg #[.int .i8 a1_0, .int .i8 a1_1, .int .i8 a1_2, .int .i8 a1_3, .int .i8 a1_4, .int .i8 a1_5], .int .i64 a2] w fun e w' => e = .returned (.bool r) ∧ Below w.heap.size w w' := by
 have hu28 := Try.underlying28
 have hu38 := Try.underlying38
 have hu36 := Try.underlying36
 have HB := am (Below.refl w.heap.size w)
 have H : ((impl_depth.f a0_0 a0_1 a0_2 a1_0 a1_1).bind fun t340 => (some (decide ((wrap64 (t340 + a2)) ≥ (wrap64 (a1_4)))))) = some r := h
 clear h
 replace H := Option.bind_eq_some_iff.mp H
 obtain ⟨t340, A40, H⟩ := H
 try dsimp only at H
 have A4 := am A40
 clear A40
 obtain rfl := Option.some.inj H
 go_enter Try.func150, Try.ntmps150
 try go_wp2_with (first | ((with_reducible refine gate_dst (N := 3) rfl ?_); refine bxe (N := 3) (cs := (csBay a0_0 a0_1 a0_2)) (t := 28) ?_; intro gb338 hg w5 hbox hb; have BK338 := am (hbox); have GW338 := am (gN hg (below_size (be HB))); have GE338 := am (gN hg (below_size (be HB))); replace HB := am (below_step (be HB) hb); clear hb hbox hg) | ((with_reducible refine gate_dst (N := 4) rfl ?_); refine bxe (N := 4) (cs := #[.int .i8 a1_0, .int .i8 a1_1, .int .i8 a1_2, .int .i8 a1_3, .int .i8 a1_4, .int .i8 a1_5]) (t := 38) ?_; intro gb339 hg w6 hbox hb; have BK339 := am (hbox); have GW339 := am (gN hg (below_size (be HB))); have GE339 := am (gN hg (below_size (be HB))); have NB338_339 := nL BK338 hg; have NB339_338 := nR BK338 hg; replace BK338 := bB BK338 hb; replace HB := am (below_step (be HB) hb); clear hb hbox hg))
 have n0_ := am (blk_drew BK338.out)
 have n1_ := am (blk_drew BK339.out)
 have n2_ := am (below_drew1 HB.out)
 clear BK338
 clear BK339
 clear HB
 have BK338 := n0_
 have BK339 := n1_
 have HB := n2_
 clear n0_ n1_ n2_
 refine start_ (n := 11) (S := fun w' => w'.cell? ⟨gb338, 0, none⟩ = some (.int .i8 a0_0) ∧ w'.cell? ⟨gb338, 1, none⟩ = some (.int .i8 a0_1) ∧ atCells w' gb338 a0_2 ∧ BayAt28 w' gb338 ∧ lvv w' gb338 = .agg (csBay a0_0 a0_1 a0_2) ∧ w'.cell? ⟨gb339, 0, none⟩ = some (.int .i8 a1_0) ∧ w'.cell? ⟨gb339, 1, none⟩ = some (.int .i8 a1_1) ∧ w'.cell? ⟨gb339, 2, none⟩ = some (.int .i8 a1_2) ∧ w'.cell? ⟨gb339, 3, none⟩ = some (.int .i8 a1_3) ∧ w'.cell? ⟨gb339, 4, none⟩ = some (.int .i8 a1_4) ∧ w'.cell? ⟨gb339, 5, none⟩ = some (.int .i8 a1_5)) (ds := []) #[false, false, false, false, false, false, false, false, false, false, false] (by kernel_rfl) rfl rfl ⟨(blk_cell BK338.out 0).trans rfl, (blk_cell BK338.out 1).trans rfl, at_cells BK338.out, BayAt28_of BK338.out, lvv_of BK338.out, (blk_cell BK339.out 0).trans rfl, (blk_cell BK339.out 1).trans rfl, (blk_cell BK339.out 2).trans rfl, (blk_cell BK339.out 3).trans rfl, (blk_cell BK339.out 4).trans rfl, (blk_cell BK339.out 5).trans rfl⟩ (fun hHeld => ?_); refine with_tabW impl_afloat.tab1 impl_afloat.bits1 (fun HT_ HW_ => ?_)
 generalize w6.drew = w7 at BK338 BK339 HB hHeld ⊢
 refine pS (i := 1) (some 8) #[false, true, false, false, false, false, false, false, false, false, false] (any_of HT_.out (by kernel_rfl)) ?_
 refine pS (i := 4) (some 11) #[false, true, false, false, true, false, false, false, false, false, false] (any_of HT_.out (by kernel_rfl)) ?_
 refine pS (i := 6) (some 13) #[false, true, false, false, true, false, true, false, false, false, false] (any_of HT_.out (by kernel_rfl)) ?_
 refine tS (i := 0) (some 7) #[true, true, false, false, true, false, true, false, false, false, false] (take_ofW HT_.out HW_.out (by kernel_rfl)) hHeld ?_
 refine tS (i := 2) (some 9) #[true, true, true, false, true, false, true, false, false, false, false] (take_ofW HT_.out HW_.out (by kernel_rfl)) hHeld ?_
 refine tS (i := 7) (some 14) #[true, true, true, false, true, false, true, true, false, false, false] (take_ofW HT_.out HW_.out (by kernel_rfl)) hHeld ?_
 refine pS (i := 8) (some 15) #[true, true, true, false, true, false, true, true, true, false, false] (any_of HT_.out (by kernel_rfl)) ?_
 refine one_ (i := 3) (N := some 10) #[true, true, true, true, true, false, true, true, true, false, false] rfl rfl (one_of HT_.out (by kernel_rfl)) (by decide) (fun K hK => ?_)
 refine goes_ Try.func112 (by kernel_rfl) rfl #[.agg (csBay a0_0 a0_1 a0_2), .agg #[.int .i8 a1_0, .int .i8 a1_1]] (by rfl) rfl rfl (by (try simp only [List.map_toArray, List.map_cons, List.map_nil]); first | done | rfl | (simp only [List.length_drop, List.length_take]; rfl)) ?_
 with_reducible refine (impl_depth.calls a0_0 a0_1 a0_2 a1_0 a1_1 t340 _ A4.out).mono ?_
 rintro e w8 ⟨rfl, hb⟩
 refine ⟨_, rfl, ?_⟩
 have n0_ := bB BK338 hb
 have n1_ := bB BK339 hb
 have n2_ := am (below_step (be HB) hb)
 clear BK338
 clear BK339
 clear HB
 have BK338 := n0_
 have BK339 := n1_
 have HB := n2_
 clear n0_ n1_ n2_
 (try clear hb)
 (try clear hb2)
 (try clear hk)
 (try clear hi)
 refine hK.out _ _ ⟨(blk_cell BK338.out 0).trans rfl, (blk_cell BK338.out 1).trans rfl, at_cells BK338.out, BayAt28_of BK338.out, lvv_of BK338.out, (blk_cell BK339.out 0).trans rfl, (blk_cell BK339.out 1).trans rfl, (blk_cell BK339.out 2).trans rfl, (blk_cell BK339.out 3).trans rfl, (blk_cell BK339.out 4).trans rfl, (blk_cell BK339.out 5).trans rfl⟩ (fun hHeld => ?_)
 clear hK K
 refine norm_ (a' := ?_) ?_ ?_
 rotate_left
 ·show Act.put _ (some 10) _ = _
  simp only [Act.put, List.setIfInBounds_toArray, List.set_cons_zero, List.set_cons_succ, i64_w, i32_w]
  rfl
 refine pS (i := 5) (some 12) #[true, true, true, true, true, true, true, true, true, false, false] (any_of HT_.out (by kernel_rfl)) ?_
 refine pS (i := 9) (some 16) #[true, true, true, true, true, true, true, true, true, true, false] (any_of HT_.out (by kernel_rfl)) ?_
 refine pS (i := 10) (some 6) #[true, true, true, true, true, true, true, true, true, true, true] (any_of HT_.out (by kernel_rfl)) ?_
 refine done_ (done_of HT_.out (by kernel_rfl)) ?_
 try go_wp2
 go_ret
 exact ⟨by first | rfl | (simp [errW_none, errW_some] <;> rfl) | (simp [*, errW_none, errW_some] <;> rfl), be HB⟩

/-! ### impl_AllAfloat_1: function 159 -/
def impl_AllAfloat_1.l0 : Nat → Int → List (S38) → Int → Int → Int → Int → (Nat → Int) → Option (Bool)
 | 0, _, _, _, _, _, _, _ => none
 | k + 1, x0, x7, x8, x9, x342000, x342001, x342002 => if x9 < x8 then (if 0 ≤ x9 then (if x9 < (x7.length : Int) then ((impl_afloat.f x342000 x342001 x342002 ((rd_T38 x7 x9).f0.f0) ((rd_T38 x7 x9).f0.f1) ((rd_T38 x7 x9).f1) ((rd_T38 x7 x9).f2) ((rd_T38 x7 x9).f3) ((rd_T38 x7 x9).f4) x0).bind fun t344 => (if t344 = true then (impl_AllAfloat_1.l0 k x0 x7 x8 (wrap64 (x9 + 1)) x342000 x342001 x342002) else (some false))) else (none)) else (none)) else (some true)
def impl_AllAfloat_1.f (k : Nat) (a0 : Int) (l1 : List (S38)) (a2_0 : Int) (a2_1 : Int) (a2_2 : (Nat → Int)) : Option (Bool) := impl_AllAfloat_1.l0 k a0 l1 (l1.length : Int) 0 a2_0 a2_1 a2_2
set_option maxHeartbeats 8000000 in
set_option maxRecDepth 100000 in
theorem impl_AllAfloat_1.calls (gb900 gb341 : Nat) (k : Nat) (a0 : Int) (A1 : Option Addr) (c1 : Nat) (l1 : List (S38)) (a2_0 : Int) (a2_1 : Int) (a2_2 : (Nat → Int)) (r : Bool) (w : World) (hbx1 : w.heap[gb900]? = some (.cells #[.slice A1 l1.length c1] 44 (0, 0))) (hbx2 : w.heap[gb341]? = some (.cells (csBay a2_0 a2_1 a2_2) 28 (0, 0))) (hr1 : Kd.C k38 w A1 l1.length l1) (hc1 : l1.length ≤ c1) (h : impl_AllAfloat_1.f k a0 l1 a2_0 a2_1 a2_2 = some r) :
  Calls Try.prog 159 #[.int .i64 a0, .pointer (some ⟨gb900, 0, none⟩), .pointer (some ⟨gb341, 0, none⟩)] w fun e w' => e = .returned (.bool r) ∧ Below w.heap.size w w' := by
 have hu28 := Try.underlying28
 have hu38 := Try.underlying38
 have HR1 := am hr1
 have HC1 := am hc1
 clear hr1 hc1
 have HB := am (Below.refl w.heap.size w)
 have H : (impl_AllAfloat_1.l0 k a0 l1 (l1.length : Int) 0 a2_0 a2_1 a2_2) = some r := h
 clear h
 have H' := am H
 clear H
 go_enter Try.func159, Try.ntmps159
 have hcs1 : w.cell? ⟨gb900, 0, none⟩ = some (.slice A1 l1.length c1) := (blk_cell hbx1 0).trans rfl
 have hfs1 := blk_frozen hbx1 0
 have BK341 := am hbx2
 clear hbx1 hbx2
 go_wp2
 clear hcs1 hfs1
 go_loopg [9] k (fun kq v9 w' => ∃ (x9_1 : Int), v9 = .int .i64 x9_1 ∧ Aside0 (impl_AllAfloat_1.l0 kq a0 l1 (l1.length : Int) x9_1 a2_0 a2_1 a2_2 = some r) ∧ Aside0 (kq ≤ k) ∧ Aside0 (w'.heap[gb341]? = some (.cells (csBay a2_0 a2_1 a2_2) 28 (0, 0))) ∧ Aside0 (Below w.heap.size w w'))
 case atStart => exact ⟨(0), vx, H', ⟨Nat.le_refl _⟩, ⟨kb BK341⟩, ⟨be HB⟩⟩
 case round =>
  clear H'
  try clear c1
  try clear p2
  obtain ⟨x9_1, rfl, HA, HK1, BK341, HB⟩ := hrel
  cases gk with
  | zero => exact absurd HA.out (by simp [impl_AllAfloat_1.l0])
  | succ k1 =>
   have H := HA.out
   clear HA
   simp only [impl_AllAfloat_1.l0] at H
   by_cases c5 : x9_1 < (l1.length : Int)
   ·rw [if_pos c5] at H
    have c5b0 : decide (x9_1 < (l1.length : Int)) = true := decide_eq_true c5
    clear c5
    by_cases c6 : 0 ≤ x9_1
    ·rw [if_pos c6] at H
     have c6b0 : decide (0 ≤ x9_1) = true := decide_eq_true c6
     have c6b1 : 0 ≤ x9_1 := c6
     clear c6
     by_cases c7 : x9_1 < (l1.length : Int)
     ·rw [if_pos c7] at H
      have c7b0 : decide (x9_1 < (l1.length : Int)) = true := decide_eq_true c7
      clear c7
      replace H := Option.bind_eq_some_iff.mp H
      obtain ⟨t344, A80, H⟩ := H
      try dsimp only at H
      have A8 := am A80
      clear A80
      by_cases c9 : t344 = true
      ·subst c9
       rw [if_pos rfl] at H
       have H' := am H
       clear H
       have p342 : 0 ≤ (x9_1 : Int) := of_decide_eq_true (by first | (with_reducible assumption) | assumption)
       have q342 : x9_1 < (l1.length : Int) := of_decide_eq_true (by first | (with_reducible assumption) | assumption)
       obtain ⟨ad342, e342, hx342_0, hx342_1, hx342_2, hx342_3, hx342_4, hx342_5⟩ := at_T38 HR1.out x9_1 p342 q342
       cases e342
       replace hx342_0 := (HB.out.cell (World.block_lt_of_cell? w _ hx342_0)).trans hx342_0
       replace hx342_1 := (HB.out.cell (World.block_lt_of_cell? w _ hx342_1)).trans hx342_1
       replace hx342_2 := (HB.out.cell (World.block_lt_of_cell? w _ hx342_2)).trans hx342_2
       replace hx342_3 := (HB.out.cell (World.block_lt_of_cell? w _ hx342_3)).trans hx342_3
       replace hx342_4 := (HB.out.cell (World.block_lt_of_cell? w _ hx342_4)).trans hx342_4
       replace hx342_5 := (HB.out.cell (World.block_lt_of_cell? w _ hx342_5)).trans hx342_5
       replace p342 := eq_true p342
       replace q342 := eq_true q342
       go_wp2_with (first | ((with_reducible refine gate_dst (N := 6) rfl ?_); refine bxe (N := 6) (cs := #[.int .i8 0, .int .i8 0, .int .i8 0, .int .i8 0, .int .i8 0, .int .i8 0]) (t := 38) ?_; intro gb343 hg w10 hbox hb; have BK343 := am (hbox); have GW343 := am (gN hg (below_size (be HB))); have GE343 := am (gN hg (below_size (be HB))); have NB341_343 := nL BK341 hg; have NB343_341 := nR BK341 hg; replace BK341 := bB BK341 hb; replace HB := am (below_step (be HB) hb); clear hb hbox hg; have hnb11 := NB343_341.out; have hnc11 := NB341_343.out; obtain ⟨hcz12_0, hcz12_1, hcz12_2, hcz12_3, hcz12_4, hcz12_5, hfz12_0, hfz12_1, hfz12_2, hfz12_3, hfz12_4, hfz12_5⟩ := bx6 BK343; obtain ⟨hcz13_0, hcz13_1, hwz13, haz13, hyz13, hvz13, hfz13_0, hfz13_1, hfz13_2⟩ := bb28 BK341) | ((with_reducible refine gate_callee (f := 150) rfl ?_); refine gL (some 16) Try.func150 #[.agg (csBay a2_0 a2_1 a2_2), .agg #[.int .i8 ((rd_T38 l1 x9_1).f0.f0), .int .i8 ((rd_T38 l1 x9_1).f0.f1), .int .i8 ((rd_T38 l1 x9_1).f1), .int .i8 ((rd_T38 l1 x9_1).f2), .int .i8 ((rd_T38 l1 x9_1).f3), .int .i8 ((rd_T38 l1 x9_1).f4)], .int .i64 a0] ?_; (with_reducible refine (impl_afloat.calls a2_0 a2_1 a2_2 ((rd_T38 l1 x9_1).f0.f0) ((rd_T38 l1 x9_1).f0.f1) ((rd_T38 l1 x9_1).f1) ((rd_T38 l1 x9_1).f2) ((rd_T38 l1 x9_1).f3) ((rd_T38 l1 x9_1).f4) a0 true _ A8.out).mono ?_); rintro e w14 ⟨rfl, hb⟩; refine ⟨_, rfl, ?_⟩; replace BK341 := am (blk_below (g := gb341) (o := .cells (csBay a2_0 a2_1 a2_2) 28 (0, 0)) (by (with_reducible repeat (first | refine blk_drewN ?_ _ | refine blk_drew ?_ | refine blk_alloc ?_ _)); refine blk_far ?_ NB341_343.out _; (with_reducible repeat (first | refine blk_drewN ?_ _ | refine blk_drew ?_ | refine blk_alloc ?_ _)); refine blk_far ?_ NB341_343.out _; (with_reducible repeat (first | refine blk_drewN ?_ _ | refine blk_drew ?_ | refine blk_alloc ?_ _)); refine blk_far ?_ NB341_343.out _; (with_reducible repeat (first | refine blk_drewN ?_ _ | refine blk_drew ?_ | refine blk_alloc ?_ _)); refine blk_far ?_ NB341_343.out _; (with_reducible repeat (first | refine blk_drewN ?_ _ | refine blk_drew ?_ | refine blk_alloc ?_ _)); refine blk_far ?_ NB341_343.out _; (with_reducible repeat (first | refine blk_drewN ?_ _ | refine blk_drew ?_ | refine blk_alloc ?_ _)); refine blk_far ?_ NB341_343.out _; exact kb BK341) hb); replace BK343 := am (blk_below (g := gb343) (o := .cells #[.int .i8 ((rd_T38 l1 x9_1).f0.f0), .int .i8 ((rd_T38 l1 x9_1).f0.f1), .int .i8 ((rd_T38 l1 x9_1).f1), .int .i8 ((rd_T38 l1 x9_1).f2), .int .i8 ((rd_T38 l1 x9_1).f3), .int .i8 ((rd_T38 l1 x9_1).f4)] 38 (0, 0)) (by (with_reducible repeat (first | refine blk_drewN ?_ _ | refine blk_drew ?_ | refine blk_alloc ?_ _)); refine blk_put (cs := #[.int .i8 ((rd_T38 l1 x9_1).f0.f0), .int .i8 ((rd_T38 l1 x9_1).f0.f1), .int .i8 ((rd_T38 l1 x9_1).f1), .int .i8 ((rd_T38 l1 x9_1).f2), .int .i8 ((rd_T38 l1 x9_1).f3), .int .i8 0]) ?_ 5 _ rfl; (with_reducible repeat (first | refine blk_drewN ?_ _ | refine blk_drew ?_ | refine blk_alloc ?_ _)); refine blk_put (cs := #[.int .i8 ((rd_T38 l1 x9_1).f0.f0), .int .i8 ((rd_T38 l1 x9_1).f0.f1), .int .i8 ((rd_T38 l1 x9_1).f1), .int .i8 ((rd_T38 l1 x9_1).f2), .int .i8 0, .int .i8 0]) ?_ 4 _ rfl; (with_reducible repeat (first | refine blk_drewN ?_ _ | refine blk_drew ?_ | refine blk_alloc ?_ _)); refine blk_put (cs := #[.int .i8 ((rd_T38 l1 x9_1).f0.f0), .int .i8 ((rd_T38 l1 x9_1).f0.f1), .int .i8 ((rd_T38 l1 x9_1).f1), .int .i8 0, .int .i8 0, .int .i8 0]) ?_ 3 _ rfl; (with_reducible repeat (first | refine blk_drewN ?_ _ | refine blk_drew ?_ | refine blk_alloc ?_ _)); refine blk_put (cs := #[.int .i8 ((rd_T38 l1 x9_1).f0.f0), .int .i8 ((rd_T38 l1 x9_1).f0.f1), .int .i8 0, .int .i8 0, .int .i8 0, .int .i8 0]) ?_ 2 _ rfl; (with_reducible repeat (first | refine blk_drewN ?_ _ | refine blk_drew ?_ | refine blk_alloc ?_ _)); refine blk_put (cs := #[.int .i8 ((rd_T38 l1 x9_1).f0.f0), .int .i8 0, .int .i8 0, .int .i8 0, .int .i8 0, .int .i8 0]) ?_ 1 _ rfl; (with_reducible repeat (first | refine blk_drewN ?_ _ | refine blk_drew ?_ | refine blk_alloc ?_ _)); refine blk_put (cs := #[.int .i8 0, .int .i8 0, .int .i8 0, .int .i8 0, .int .i8 0, .int .i8 0]) ?_ 0 _ rfl; exact kb BK343) hb); replace HB := am (below_step (be HB) hb); (try clear hb); (try clear hb2); (try clear hk); (try clear hi)))
       go_roundg k1
       case measure => have := HK1.out; omega
       case rel => exact ⟨(wrap64 (x9_1 + 1)), vx, H', ⟨by have := HK1.out; omega⟩, ⟨kb BK341⟩, ⟨be HB⟩⟩
      ·replace c9 := Bool.eq_false_iff.mpr c9
       subst c9
       have H1 : (some false) = some r := by rw [if_neg (show ¬ (false = true) by decide)] at H; exact H
       clear H
       have H := H1
       clear H1
       obtain rfl := Option.some.inj H
       have p342 : 0 ≤ (x9_1 : Int) := of_decide_eq_true (by first | (with_reducible assumption) | assumption)
       have q342 : x9_1 < (l1.length : Int) := of_decide_eq_true (by first | (with_reducible assumption) | assumption)
       obtain ⟨ad342, e342, hx342_0, hx342_1, hx342_2, hx342_3, hx342_4, hx342_5⟩ := at_T38 HR1.out x9_1 p342 q342
       cases e342
       replace hx342_0 := (HB.out.cell (World.block_lt_of_cell? w _ hx342_0)).trans hx342_0
       replace hx342_1 := (HB.out.cell (World.block_lt_of_cell? w _ hx342_1)).trans hx342_1
       replace hx342_2 := (HB.out.cell (World.block_lt_of_cell? w _ hx342_2)).trans hx342_2
       replace hx342_3 := (HB.out.cell (World.block_lt_of_cell? w _ hx342_3)).trans hx342_3
       replace hx342_4 := (HB.out.cell (World.block_lt_of_cell? w _ hx342_4)).trans hx342_4
       replace hx342_5 := (HB.out.cell (World.block_lt_of_cell? w _ hx342_5)).trans hx342_5
       replace p342 := eq_true p342
       replace q342 := eq_true q342
       go_wp2_with (first | ((with_reducible refine gate_dst (N := 6) rfl ?_); refine bxe (N := 6) (cs := #[.int .i8 0, .int .i8 0, .int .i8 0, .int .i8 0, .int .i8 0, .int .i8 0]) (t := 38) ?_; intro gb343 hg w15 hbox hb; have BK343 := am (hbox); have GW343 := am (gN hg (below_size (be HB))); have GE343 := am (gN hg (below_size (be HB))); have NB341_343 := nL BK341 hg; have NB343_341 := nR BK341 hg; replace BK341 := bB BK341 hb; replace HB := am (below_step (be HB) hb); clear hb hbox hg; have hnb16 := NB343_341.out; have hnc16 := NB341_343.out; obtain ⟨hcz17_0, hcz17_1, hcz17_2, hcz17_3, hcz17_4, hcz17_5, hfz17_0, hfz17_1, hfz17_2, hfz17_3, hfz17_4, hfz17_5⟩ := bx6 BK343; obtain ⟨hcz18_0, hcz18_1, hwz18, haz18, hyz18, hvz18, hfz18_0, hfz18_1, hfz18_2⟩ := bb28 BK341) | ((with_reducible refine gate_callee (f := 150) rfl ?_); refine gL (some 16) Try.func150 #[.agg (csBay a2_0 a2_1 a2_2), .agg #[.int .i8 ((rd_T38 l1 x9_1).f0.f0), .int .i8 ((rd_T38 l1 x9_1).f0.f1), .int .i8 ((rd_T38 l1 x9_1).f1), .int .i8 ((rd_T38 l1 x9_1).f2), .int .i8 ((rd_T38 l1 x9_1).f3), .int .i8 ((rd_T38 l1 x9_1).f4)], .int .i64 a0] ?_; (with_reducible refine (impl_afloat.calls a2_0 a2_1 a2_2 ((rd_T38 l1 x9_1).f0.f0) ((rd_T38 l1 x9_1).f0.f1) ((rd_T38 l1 x9_1).f1) ((rd_T38 l1 x9_1).f2) ((rd_T38 l1 x9_1).f3) ((rd_T38 l1 x9_1).f4) a0 false _ A8.out).mono ?_); rintro e w19 ⟨rfl, hb⟩; refine ⟨_, rfl, ?_⟩; replace BK341 := am (blk_below (g := gb341) (o := .cells (csBay a2_0 a2_1 a2_2) 28 (0, 0)) (by (with_reducible repeat (first | refine blk_drewN ?_ _ | refine blk_drew ?_ | refine blk_alloc ?_ _)); refine blk_far ?_ NB341_343.out _; (with_reducible repeat (first | refine blk_drewN ?_ _ | refine blk_drew ?_ | refine blk_alloc ?_ _)); refine blk_far ?_ NB341_343.out _; (with_reducible repeat (first | refine blk_drewN ?_ _ | refine blk_drew ?_ | refine blk_alloc ?_ _)); refine blk_far ?_ NB341_343.out _; (with_reducible repeat (first | refine blk_drewN ?_ _ | refine blk_drew ?_ | refine blk_alloc ?_ _)); refine blk_far ?_ NB341_343.out _; (with_reducible repeat (first | refine blk_drewN ?_ _ | refine blk_drew ?_ | refine blk_alloc ?_ _)); refine blk_far ?_ NB341_343.out _; (with_reducible repeat (first | refine blk_drewN ?_ _ | refine blk_drew ?_ | refine blk_alloc ?_ _)); refine blk_far ?_ NB341_343.out _; exact kb BK341) hb); replace BK343 := am (blk_below (g := gb343) (o := .cells #[.int .i8 ((rd_T38 l1 x9_1).f0.f0), .int .i8 ((rd_T38 l1 x9_1).f0.f1), .int .i8 ((rd_T38 l1 x9_1).f1), .int .i8 ((rd_T38 l1 x9_1).f2), .int .i8 ((rd_T38 l1 x9_1).f3), .int .i8 ((rd_T38 l1 x9_1).f4)] 38 (0, 0)) (by (with_reducible repeat (first | refine blk_drewN ?_ _ | refine blk_drew ?_ | refine blk_alloc ?_ _)); refine blk_put (cs := #[.int .i8 ((rd_T38 l1 x9_1).f0.f0), .int .i8 ((rd_T38 l1 x9_1).f0.f1), .int .i8 ((rd_T38 l1 x9_1).f1), .int .i8 ((rd_T38 l1 x9_1).f2), .int .i8 ((rd_T38 l1 x9_1).f3), .int .i8 0]) ?_ 5 _ rfl; (with_reducible repeat (first | refine blk_drewN ?_ _ | refine blk_drew ?_ | refine blk_alloc ?_ _)); refine blk_put (cs := #[.int .i8 ((rd_T38 l1 x9_1).f0.f0), .int .i8 ((rd_T38 l1 x9_1).f0.f1), .int .i8 ((rd_T38 l1 x9_1).f1), .int .i8 ((rd_T38 l1 x9_1).f2), .int .i8 0, .int .i8 0]) ?_ 4 _ rfl; (with_reducible repeat (first | refine blk_drewN ?_ _ | refine blk_drew ?_ | refine blk_alloc ?_ _)); refine blk_put (cs := #[.int .i8 ((rd_T38 l1 x9_1).f0.f0), .int .i8 ((rd_T38 l1 x9_1).f0.f1), .int .i8 ((rd_T38 l1 x9_1).f1), .int .i8 0, .int .i8 0, .int .i8 0]) ?_ 3 _ rfl; (with_reducible repeat (first | refine blk_drewN ?_ _ | refine blk_drew ?_ | refine blk_alloc ?_ _)); refine blk_put (cs := #[.int .i8 ((rd_T38 l1 x9_1).f0.f0), .int .i8 ((rd_T38 l1 x9_1).f0.f1), .int .i8 0, .int .i8 0, .int .i8 0, .int .i8 0]) ?_ 2 _ rfl; (with_reducible repeat (first | refine blk_drewN ?_ _ | refine blk_drew ?_ | refine blk_alloc ?_ _)); refine blk_put (cs := #[.int .i8 ((rd_T38 l1 x9_1).f0.f0), .int .i8 0, .int .i8 0, .int .i8 0, .int .i8 0, .int .i8 0]) ?_ 1 _ rfl; (with_reducible repeat (first | refine blk_drewN ?_ _ | refine blk_drew ?_ | refine blk_alloc ?_ _)); refine blk_put (cs := #[.int .i8 0, .int .i8 0, .int .i8 0, .int .i8 0, .int .i8 0, .int .i8 0]) ?_ 0 _ rfl; exact kb BK343) hb); replace HB := am (below_step (be HB) hb); (try clear hb); (try clear hb2); (try clear hk); (try clear hi)))
       go_ret
       exact ⟨by first | rfl | (simp [errW_none, errW_some] <;> rfl) | (simp [*, errW_none, errW_some] <;> rfl), be HB⟩
     ·rw [if_neg c7] at H
      exact absurd H (by simp)
    ·rw [if_neg c6] at H
     exact absurd H (by simp)
   ·rw [if_neg c5] at H
    have c5b0 : decide (x9_1 < (l1.length : Int)) = false := decide_eq_false c5
    clear c5
    obtain rfl := Option.some.inj H
    go_wp2
    go_ret
    exact ⟨by first | rfl | (simp [errW_none, errW_some] <;> rfl) | (simp [*, errW_none, errW_some] <;> rfl), be HB⟩

/-! ### impl_AllAfloat: function 93 -/
def impl_AllAfloat.f (k : Nat) (a0_0 : Int) (a0_1 : Int) (a0_2 : (Nat → Int)) (l1 : List (S38)) (l2 : List (S103)) : Option ((List (S82)) × Int) := (impl_floatCode.f k a0_0 a0_1 a0_2 l1 l2 ([] : List Int)).bind fun t346 => (if t346 = 0 then ((impl_windows.f (fun h_ => impl_AllAfloat_1.f k h_ l1 a0_0 a0_1 a0_2) k l2).bind fun t347 => (some (t347, 0))) else (some (([] : List (S82)), t346)))
set_option maxHeartbeats 8000000 in
set_option maxRecDepth 100000 in
theorem impl_AllAfloat.calls (k : Nat) (a0_0 : Int) (a0_1 : Int) (a0_2 : (Nat → Int)) (A1 : Option Addr) (c1 : Nat) (l1 : List (S38)) (A2 : Option Addr) (c2 : Nat) (l2 : List (S103)) (r1 : List (S82)) (r2 : Int) (w : World) (hr1 : Kd.C k38 w A1 l1.length l1) (hc1 : l1.length ≤ c1) (hr2 : Kd.C k103 w A2 l2.length l2) (hc2 : l2.length ≤ c2) (h : impl_AllAfloat.f k a0_0 a0_1 a0_2 l1 l2 = some (r1, r2)) :
  Calls Try.prog 93 #[.agg (csBay a0_0 a0_1 a0_2), .slice A1 l1.length c1, .slice A2 l2.length c2] w fun e w' => ∃ v0_ : Value, e = .returned (.tuple #[v0_, .int .i64 r2]) ∧ Kd.R k82 82 w' w.heap.size (fun _ => True) v0_ r1 ∧ Below w.heap.size w w' := by
 have hu28 := Try.underlying28
 have hmf : ∀ (fn : Fn) (first cap : Array Value) (w : World), (Instr.makeFunc fn first cap).run Try.prog w = .ok (.func fn first cap) w := fun _ _ _ _ => rfl
 have HR1 := am hr1
 have HC1 := am hc1
 clear hr1 hc1
 have HR2 := am hr2
 have HC2 := am hc2
 clear hr2 hc2
 have HB := am (Below.refl w.heap.size w)
 have H : ((impl_floatCode.f k a0_0 a0_1 a0_2 l1 l2 ([] : List Int)).bind fun t346 => (if t346 = 0 then ((impl_windows.f (fun h_ => impl_AllAfloat_1.f k h_ l1 a0_0 a0_1 a0_2) k l2).bind fun t347 => (some (t347, 0))) else (some (([] : List (S82)), t346)))) = some (r1, r2) := h
 clear h
 replace H := Option.bind_eq_some_iff.mp H
 obtain ⟨t346, A40, H⟩ := H
 try dsimp only at H
 have A4 := am A40
 clear A40
 by_cases c5 : t346 = 0
 ·rw [if_pos c5] at H
  have c5b0 : (t346 == 0) = true := beq_iff_eq.mpr c5
  have c5b1 : (t346 != 0) = false := bne_eq_false_iff_eq.mpr c5
  clear c5
  replace H := Option.bind_eq_some_iff.mp H
  obtain ⟨t347, A60, H⟩ := H
  try dsimp only at H
  have A6 := am A60
  clear A60
  simp only [Option.some.injEq, Prod.mk.injEq] at H
  obtain ⟨rfl, rfl⟩ := H
  go_enter Try.func93, Try.ntmps93
  go_wp2_with (first | ((with_reducible refine gate_dst (N := 3) rfl ?_); refine bxe (N := 3) (cs := (csBay a0_0 a0_1 a0_2)) (t := 28) ?_; intro gb345 hg w7 hbox hb; have BK345 := am (hbox); have GW345 := am (gN hg (below_size (be HB))); have GE345 := am (gN hg (below_size (be HB))); replace HB := am (below_step (be HB) hb); clear hb hbox hg) | ((with_reducible refine gate_dst (N := 4) rfl ?_); refine bxe (N := 4) (cs := #[.slice A1 l1.length c1]) (t := 44) ?_; intro gb900 hg w7s hbox hb; have BK900 := am hbox; replace BK345 := am (blk_below (g := gb345) (o := .cells (csBay a0_0 a0_1 a0_2) 28 (0, 0)) BK345.out hb); replace HB := am (below_step HB.out hb); clear hb hbox hg; have hcs900 : w7s.cell? ⟨gb900, 0, none⟩ = some (.slice A1 l1.length c1) := (blk_cell BK900.out 0).trans rfl; have hfs900 := blk_frozen BK900.out 0; obtain ⟨hcz8_0, hcz8_1, hwz8, haz8, hyz8, hvz8, hfz8_0, hfz8_1, hfz8_2⟩ := bb28 BK345) | ((with_reducible refine gate_callee (f := 155) rfl ?_); refine gL (some 12) Try.func155 #[.agg (csBay a0_0 a0_1 a0_2), .slice A1 l1.length c1, .slice A2 l2.length c2, .slice none 0 0] ?_; (refine (impl_floatCode.calls k a0_0 a0_1 a0_2 _ _ l1 _ _ l2 _ _ ([] : List Int) t346 _ ?side1 ?side2 ?side3 ?side4 ?side5 ?side6 A4.out).mono ?_); (case side1 => repeat (first | exact (Kd.C_below HR1.out HB.out) | (with_reducible refine Kd.C_alloc ?_ _) | (with_reducible refine Kd.C_drewN ?_ _) | (with_reducible refine Kd.C_drew ?_))); (case side2 => exact HC1.out); (case side3 => repeat (first | exact (Kd.C_below HR2.out HB.out) | (with_reducible refine Kd.C_alloc ?_ _) | (with_reducible refine Kd.C_drewN ?_ _) | (with_reducible refine Kd.C_drew ?_))); (case side4 => exact HC2.out); (case side5 => exact Kd.C_nil _ _); (case side6 => exact Nat.le_refl _); rintro e w9 ⟨rfl, hb⟩; refine ⟨_, rfl, ?_⟩; replace BK345 := bB BK345 hb; replace HB := am (below_step (be HB) hb); have n9_ := am (blk_below (g := gb900) (o := .cells #[.slice A1 l1.length c1] 44 (0, 0)) BK900.out hb); clear BK900; have BK900 := n9_; clear n9_; (try clear hb); (try clear hb2); (try clear hk); (try clear hi)) | ((with_reducible refine gate_callee (f := 158) rfl ?_); refine gL (some 18) Try.func158 #[.slice A2 l2.length c2, .func (.func 159) #[] #[.pointer (some ⟨gb900, 0, none⟩), .pointer (some ⟨gb345, 0, none⟩)]] ?_; (with_reducible refine (impl_windows.calls (fun h_ => impl_AllAfloat_1.f k h_ l1 a0_0 a0_1 a0_2) gb900 gb345 k _ _ l2 t347 _ ?hcf ?side1 ?side2 A6.out).mono ?_); (case hcf => intro W_ h_ r_ hw_ hr_; exact impl_AllAfloat_1.calls gb900 gb345 k h_ A1 c1 l1 a0_0 a0_1 a0_2 r_ W_ (blk_below (o := .cells #[.slice A1 l1.length c1] 44 (0, 0)) BK900.out hw_) (blk_below (o := .cells (csBay a0_0 a0_1 a0_2) 28 (0, 0)) BK345.out hw_) (Kd.C_below (Kd.C_below HR1.out HB.out) hw_) HC1.out hr_); (case side1 => repeat (first | exact (Kd.C_below HR2.out HB.out) | (with_reducible refine Kd.C_alloc ?_ _) | (with_reducible refine Kd.C_drewN ?_ _) | (with_reducible refine Kd.C_drew ?_))); (case side2 => exact HC2.out); rintro e w10 ⟨v348, rfl, ho0, hb⟩; refine ⟨_, rfl, ?_⟩; have HO349 := am (Kd.R_lower ho0 (below_size (be HB))); replace BK345 := bB BK345 hb; replace HB := am (below_step (be HB) hb); have n9_ := am (blk_below (g := gb900) (o := .cells #[.slice A1 l1.length c1] 44 (0, 0)) BK900.out hb); clear BK900; have BK900 := n9_; clear n9_; (try clear hb); (try clear hb2); (try clear hk); (try clear hi); (try clear ho0)))
  go_ret2
  exact ⟨_, by first | rfl | (simp [errW_none, errW_some] <;> rfl) | (simp [*, errW_none, errW_some] <;> rfl), by (with_reducible repeat (first | apply Kd.R_alloc | apply Kd.R_drewN | apply Kd.R_drew)); exact HO349.out, be HB⟩
 ·rw [if_neg c5] at H
  have c5b0 : (t346 == 0) = false := beq_eq_false_iff_ne.mpr c5
  have c5b1 : (t346 != 0) = true := bne_iff_ne.mpr c5
  simp only [Option.some.injEq, Prod.mk.injEq] at H
  obtain ⟨rfl, rfl⟩ := H
  go_enter Try.func93, Try.ntmps93
  go_wp2_with (first | ((with_reducible refine gate_dst (N := 3) rfl ?_); refine bxe (N := 3) (cs := (csBay a0_0 a0_1 a0_2)) (t := 28) ?_; intro gb345 hg w11 hbox hb; have BK345 := am (hbox); have GW345 := am (gN hg (below_size (be HB))); have GE345 := am (gN hg (below_size (be HB))); replace HB := am (below_step (be HB) hb); clear hb hbox hg) | ((with_reducible refine gate_dst (N := 4) rfl ?_); refine bxe (N := 4) (cs := #[.slice A1 l1.length c1]) (t := 44) ?_; intro gb900 hg w11s hbox hb; have BK900 := am hbox; replace BK345 := am (blk_below (g := gb345) (o := .cells (csBay a0_0 a0_1 a0_2) 28 (0, 0)) BK345.out hb); replace HB := am (below_step HB.out hb); clear hb hbox hg; have hcs900 : w11s.cell? ⟨gb900, 0, none⟩ = some (.slice A1 l1.length c1) := (blk_cell BK900.out 0).trans rfl; have hfs900 := blk_frozen BK900.out 0; obtain ⟨hcz12_0, hcz12_1, hwz12, haz12, hyz12, hvz12, hfz12_0, hfz12_1, hfz12_2⟩ := bb28 BK345) | ((with_reducible refine gate_callee (f := 155) rfl ?_); refine gL (some 12) Try.func155 #[.agg (csBay a0_0 a0_1 a0_2), .slice A1 l1.length c1, .slice A2 l2.length c2, .slice none 0 0] ?_; (refine (impl_floatCode.calls k a0_0 a0_1 a0_2 _ _ l1 _ _ l2 _ _ ([] : List Int) t346 _ ?side1 ?side2 ?side3 ?side4 ?side5 ?side6 A4.out).mono ?_); (case side1 => repeat (first | exact (Kd.C_below HR1.out HB.out) | (with_reducible refine Kd.C_alloc ?_ _) | (with_reducible refine Kd.C_drewN ?_ _) | (with_reducible refine Kd.C_drew ?_))); (case side2 => exact HC1.out); (case side3 => repeat (first | exact (Kd.C_below HR2.out HB.out) | (with_reducible refine Kd.C_alloc ?_ _) | (with_reducible refine Kd.C_drewN ?_ _) | (with_reducible refine Kd.C_drew ?_))); (case side4 => exact HC2.out); (case side5 => exact Kd.C_nil _ _); (case side6 => exact Nat.le_refl _); rintro e w13 ⟨rfl, hb⟩; refine ⟨_, rfl, ?_⟩; replace BK345 := bB BK345 hb; replace HB := am (below_step (be HB) hb); have n9_ := am (blk_below (g := gb900) (o := .cells #[.slice A1 l1.length c1] 44 (0, 0)) BK900.out hb); clear BK900; have BK900 := n9_; clear n9_; (try clear hb); (try clear hb2); (try clear hk); (try clear hi)))
  go_ret2
  exact ⟨_, by first | rfl | (simp [errW_none, errW_some] <;> rfl) | (simp [*, errW_none, errW_some] <;> rfl), by first | exact Kd.R_nil _ _ _ _ _ | exact Kd.N_nil _ _ _ _ _ | exact Kd.V_nil _ _ _ _ _ | exact Kd.Q_nil _ _ _ _ _ | exact Kd.S_nil _ _ _ _ _, be HB⟩

end Go.Proofs.Ytcollbifdfhfoaa.PFnExactAllAfloat
