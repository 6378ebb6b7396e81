import Derived.Test.YteffdjfiialdfaaDoorBayTo
namespace Go.Proofs.YteffdjfiialdfaaDoor.BayIn
open Go Go.RowKit Go.Proofs.YteffdjfiialdfaaDoorW.PrintWords Go.Proofs.YteffdjfiialdfaaDoorW.PrintLast Go.Proofs.YteffdjfiialdfaaDoorW.PrintMore Go.Proofs.YteffdjfiialdfaaDoor.Bay
set_option linter.unusedVariables false
set_option linter.unusedSimpArgs false
attribute [local go_sem ↓] lv24_eq lv23_eq sv23_eq ix24_eq ix23_eq
def eqN (n : Nat) (r q : Nat → Int) : Bool := (List.range n).all fun i => r i == q i
theorem eqN_true {n : Nat} {r q : Nat → Int} : eqN n r q = true ↔ ∀ i, i < n → r i = q i := by simp [eqN]
theorem eqN_false {n : Nat} {r q : Nat → Int} (i : Nat) (hi : i < n) (h : r i ≠ q i) : eqN n r q = false := by
  cases e : eqN n r q with
  | false => rfl
  | true => exact absurd (eqN_true.1 e i hi) h
set_option maxHeartbeats 8000000 in
set_option maxRecDepth 100000 in
theorem eq16_calls (r q : Nat → Int) (w : World) :
    Calls Tryd.prog 57 #[.agg (rowA r), .agg (rowA q)] w fun e w' => e = .returned (.bool (eqN 16 r q)) ∧ Below w.heap.size w w' := by
  have hu23 := Tryd.underlying23
  have HB := Aside0.mk (Below.refl w.heap.size w)
  go_enter Tryd.func57, Tryd.ntmps57
  go_wp2_with (first | ((with_reducible refine gate_dst (N := 2) rfl ?_); refine box_event ?hg (N := 2) ?hd (cs := rowA r) (t := 23) ?hr ?_; (case hd => rfl); (case hg => rfl); (case hr => first | (go_simp; done) | (go_simp; rfl)); intro g2 hg w2 hbox hb; have n0_ := Aside0.mk (below_step HB.out hb); clear HB; have HB := n0_; clear n0_; have BK2 := Aside0.mk hbox; clear hbox hb hg) | ((with_reducible refine gate_dst (N := 3) rfl ?_); refine box_event ?hg (N := 3) ?hd (cs := rowA q) (t := 23) ?hr ?_; (case hd => rfl); (case hg => rfl); (case hr => first | (go_simp; done) | (go_simp; rfl)); intro g3 hg w3 hbox hb; have m2_ := Aside0.mk (blk_below BK2.out hb); clear BK2; have BK2 := m2_; clear m2_; have n0_ := Aside0.mk (below_step HB.out hb); clear HB; have HB := n0_; clear n0_; have BK3 := Aside0.mk hbox; clear hbox hb hg))
  go_loopg [5] 17 (fun kq v5 w' => ∃ i : Nat, v5 = .int .i64 (i : Int) ∧ Aside0 (i ≤ 16 ∧ kq = 17 - i) ∧ Aside0 (∀ j, j < i → r j = q j) ∧ Aside0 (w'.heap[g2]? = some (.cells (rowA r) 23 (0, 0))) ∧ Aside0 (w'.heap[g3]? = some (.cells (rowA q) 23 (0, 0))) ∧ Aside0 (Below w.heap.size w w'))
  case atStart => exact ⟨0, rfl, ⟨by omega, rfl⟩, ⟨fun j hj => absurd hj (by omega)⟩, BK2, BK3, HB⟩
  case round =>
    clear HB BK2 BK3
    obtain ⟨i, rfl, HY, HE, BK2, BK3, HB⟩ := hrel
    by_cases hi : (i : Int) < 16
    · have hib : decide ((i : Int) < 16) = true := decide_eq_true hi
      have hi2 : i < 16 := by omega
      have h0 : 0 ≤ (i : Int) := by omega
      have HI := Aside0.mk hi2
      have hx2 := cell_row BK2.out i hi2
      have hx3 := cell_row BK3.out i hi2
      have hwi : wrap64 ((i : Int) + 1) = ((i + 1 : Nat) : Int) := by rw [w64r (by omega) (by omega)]; omega
      clear hi2
      by_cases hq : r i = q i
      · have hqb : (r i != q i) = false := bne_eq_false_iff_eq.mpr hq
        have HQ := Aside0.mk hq
        clear hq
        go_wp2
        go_quiet (fail)
        go_wp2
        go_roundg (17 - (i + 1))
        case measure => have := HY.out; have := HI.out; omega
        case rel => exact ⟨i + 1, by first | rfl | (simp; done) | (simp [*]; done) | (rw [hwi]), ⟨by have := HI.out; omega, rfl⟩, ⟨fun j hj => if h : j = i then h ▸ HQ.out else HE.out j (by omega)⟩, BK2, BK3, ⟨pw_below_drewN HB.out _⟩⟩
      · have hqb : (r i != q i) = true := bne_iff_ne.mpr hq
        have HQ := Aside0.mk hq
        clear hq
        go_wp2
        go_quiet (fail)
        go_wp2
        go_ret
        exact ⟨by rw [eqN_false i HI.out HQ.out]; first | done | rfl, pw_below_drewN HB.out _⟩
    · have hib : decide ((i : Int) < 16) = false := decide_eq_false hi
      have e : i = 16 := by have := HY.out; omega
      subst e
      clear hi
      go_wp2
      go_ret
      exact ⟨by rw [eqN_true.2 HE.out]; first | done | rfl, HB.out⟩
set_option maxHeartbeats 8000000 in
set_option maxRecDepth 100000 in
theorem eqSq_calls (d e : Nat → Int) (w : World) :
    Calls Tryd.prog 40 #[.agg (arA d), .agg (arA e)] w fun x w' => x = .returned (.bool (eqN 256 d e)) ∧ Below w.heap.size w w' := by
  have hu23 := Tryd.underlying23
  have hu24 := Tryd.underlying24
  have HB := Aside0.mk (Below.refl w.heap.size w)
  go_enter Tryd.func40, Tryd.ntmps40
  go_wp2_with (first | ((with_reducible refine gate_dst (N := 2) rfl ?_); refine box_event ?hg (N := 2) ?hd (cs := arA d) (t := 24) ?hr ?_; (case hd => rfl); (case hg => rfl); (case hr => first | (go_simp; done) | (go_simp; rfl)); intro g2 hg w2 hbox hb; have n0_ := Aside0.mk (below_step HB.out hb); clear HB; have HB := n0_; clear n0_; have BK2 := Aside0.mk hbox; clear hbox hb hg) | ((with_reducible refine gate_dst (N := 3) rfl ?_); refine box_event ?hg (N := 3) ?hd (cs := arA e) (t := 24) ?hr ?_; (case hd => rfl); (case hg => rfl); (case hr => first | (go_simp; done) | (go_simp; rfl)); intro g3 hg w3 hbox hb; have m2_ := Aside0.mk (blk_below BK2.out hb); clear BK2; have BK2 := m2_; clear m2_; have n0_ := Aside0.mk (below_step HB.out hb); clear HB; have HB := n0_; clear n0_; have BK3 := Aside0.mk hbox; clear hbox hb hg))
  go_loopg [5] 17 (fun kq v5 w' => ∃ i : Nat, v5 = .int .i64 (i : Int) ∧ Aside0 (i ≤ 16 ∧ kq = 17 - i) ∧ Aside0 (∀ j, j < 16 * i → d j = e j) ∧ Aside0 (w'.heap[g2]? = some (.cells (arA d) 24 (0, 0))) ∧ Aside0 (w'.heap[g3]? = some (.cells (arA e) 24 (0, 0))) ∧ Aside0 (Below w.heap.size w w'))
  case atStart => exact ⟨0, rfl, ⟨by omega, rfl⟩, ⟨fun j hj => absurd hj (by omega)⟩, BK2, BK3, HB⟩
  case round =>
    clear HB BK2 BK3
    obtain ⟨i, rfl, HY, HE, BK2, BK3, HB⟩ := hrel
    by_cases hi : (i : Int) < 16
    · have hib : decide ((i : Int) < 16) = true := decide_eq_true hi
      have hi2 : i < 16 := by omega
      have h0 : 0 ≤ (i : Int) := by omega
      have HI := Aside0.mk hi2
      have hwi : wrap64 ((i : Int) + 1) = ((i + 1 : Nat) : Int) := by rw [w64r (by omega) (by omega)]; omega
      clear hi2
      cases hq : eqN 16 (fun x => d (16 * i + x)) (fun x => e (16 * i + x)) with
      | true =>
        have HQ := Aside0.mk hq
        go_wp2
        refine start_ (n := 8) (S := fun w' => (lv23 ⟨g2, i * 16, none⟩).run Tryd.prog w' = .ok (.agg (rowA fun x => d (16 * i + x))) w' ∧ (lv23 ⟨g3, i * 16, none⟩).run Tryd.prog w' = .ok (.agg (rowA fun x => e (16 * i + x))) w') (ds := []) #[false, false, false, false, false, false, false, false] (by kernel_rfl) rfl rfl ⟨lv23_sq (blk_drew BK2.out) i HI.out, lv23_sq (blk_drew BK3.out) i HI.out⟩ (fun hHeld => ?_)
        have n2_ := Aside0.mk (blk_drew BK2.out)
        have n3_ := Aside0.mk (blk_drew BK3.out)
        have n4_ := Aside0.mk (below_drew1 HB.out)
        clear BK2 BK3 HB
        have BK2 := n2_
        have BK3 := n3_
        have HB := n4_
        clear n2_ n3_ n4_
        generalize wr.drew = w4 at BK2 BK3 HB hHeld ⊢
        refine pure_ (i := 0) (N := some 10) #[true, false, false, false, false, false, false, false] rfl rfl (by kernel_rfl) (fun _ _ _ h => h) (Or.inl ⟨by rfl, by intro w'; go_simp; with_reducible rfl⟩) (by simp only [Act.put, List.setIfInBounds_toArray, List.set_cons_zero, List.set_cons_succ]; rfl) ?_
        refine pure_ (i := 3) (N := some 13) #[true, false, false, true, false, false, false, false] rfl rfl (by kernel_rfl) (fun _ _ _ h => h) (Or.inl ⟨by rfl, by intro w'; go_simp; with_reducible rfl⟩) (by simp only [Act.put, List.setIfInBounds_toArray, List.set_cons_zero, List.set_cons_succ]; rfl) ?_
        refine pure_ (i := 1) (N := some 11) #[true, true, false, true, false, false, false, false] rfl rfl (by kernel_rfl) (fun _ _ _ h => h) (Or.inl ⟨by rfl, by intro w'; go_simp; with_reducible rfl⟩) (by simp only [Act.put, List.setIfInBounds_toArray, List.set_cons_zero, List.set_cons_succ]; rfl) ?_
        refine take_ (i := 2) (N := some 12) #[true, true, true, true, false, false, false, false] rfl rfl (by kernel_rfl) (fun _ _ _ h => h) (Or.inl ⟨by rfl, by intro w' hS_; obtain ⟨h1_, h2_⟩ := hS_; go_simp; with_reducible rfl⟩) hHeld (by simp only [Act.put, List.setIfInBounds_toArray, List.set_cons_zero, List.set_cons_succ]; rfl) ?_
        refine pure_ (i := 4) (N := some 14) #[true, true, true, true, true, false, false, false] rfl rfl (by kernel_rfl) (fun _ _ _ h => h) (Or.inl ⟨by rfl, by intro w'; go_simp; with_reducible rfl⟩) (by simp only [Act.put, List.setIfInBounds_toArray, List.set_cons_zero, List.set_cons_succ]; rfl) ?_
        refine take_ (i := 5) (N := some 15) #[true, true, true, true, true, true, false, false] rfl rfl (by kernel_rfl) (fun _ _ _ h => h) (Or.inl ⟨by rfl, by intro w' hS_; obtain ⟨h1_, h2_⟩ := hS_; go_simp; with_reducible rfl⟩) hHeld (by simp only [Act.put, List.setIfInBounds_toArray, List.set_cons_zero, List.set_cons_succ]; rfl) ?_
        refine one_ (i := 6) (N := some 16) #[true, true, true, true, true, true, true, false] rfl rfl (by kernel_rfl) (by decide) (fun K hK => ?_)
        refine goes_ Tryd.func57 (by kernel_rfl) rfl #[.agg (rowA fun x => d (16 * i + x)), .agg (rowA fun x => e (16 * i + x))] (by rfl) rfl rfl (by (try simp only [List.map_toArray, List.map_cons, List.map_nil]); first | done | rfl) ?_
        with_reducible refine (eq16_calls _ _ _).mono ?_
        rintro x w5 ⟨rfl, hb⟩
        refine ⟨_, rfl, ?_⟩
        rw [hq]
        have n2_ := Aside0.mk (blk_below BK2.out hb)
        have n3_ := Aside0.mk (blk_below BK3.out hb)
        have n4_ := Aside0.mk (below_step HB.out hb)
        clear BK2 BK3 HB hb
        have BK2 := n2_
        have BK3 := n3_
        have HB := n4_
        clear n2_ n3_ n4_
        refine hK.out _ _ ⟨lv23_sq BK2.out i HI.out, lv23_sq BK3.out i HI.out⟩ (fun hHeld => ?_)
        clear hK K
        refine norm_ (a' := ?_) ?_ ?_
        rotate_left
        · show Act.put _ (some 16) _ = _
          simp only [Act.put, List.setIfInBounds_toArray, List.set_cons_zero, List.set_cons_succ]
          rfl
        refine pure_ (i := 7) (N := some 17) #[true, true, true, true, true, true, true, true] rfl rfl (by kernel_rfl) (fun _ _ _ h => h) (Or.inl ⟨by rfl, by intro w'; go_simp; with_reducible rfl⟩) (by simp only [Act.put, List.setIfInBounds_toArray, List.set_cons_zero, List.set_cons_succ]; rfl) ?_
        refine done_ (by kernel_rfl) ?_
        (try simp only [Exit.inBlock, Exit.then])
        go_wp2
        clear hq
        go_roundg (17 - (i + 1))
        case measure => have := HY.out; have := HI.out; omega
        case rel => exact ⟨i + 1, by first | rfl | (simp; done) | (simp [*]; done) | (rw [hwi]), ⟨by have := HI.out; omega, rfl⟩, ⟨fun j hj => if h : j < 16 * i then HE.out j h else by
          have h2 := eqN_true.1 HQ.out (j - 16 * i) (by omega)
          rwa [show 16 * i + (j - 16 * i) = j from by omega] at h2⟩, BK2, BK3, by first | exact HB | exact ⟨pw_below_drewN HB.out _⟩⟩
      | false =>
        have HQ := Aside0.mk hq
        go_wp2
        refine start_ (n := 8) (S := fun w' => (lv23 ⟨g2, i * 16, none⟩).run Tryd.prog w' = .ok (.agg (rowA fun x => d (16 * i + x))) w' ∧ (lv23 ⟨g3, i * 16, none⟩).run Tryd.prog w' = .ok (.agg (rowA fun x => e (16 * i + x))) w') (ds := []) #[false, false, false, false, false, false, false, false] (by kernel_rfl) rfl rfl ⟨lv23_sq (blk_drew BK2.out) i HI.out, lv23_sq (blk_drew BK3.out) i HI.out⟩ (fun hHeld => ?_)
        have n2_ := Aside0.mk (blk_drew BK2.out)
        have n3_ := Aside0.mk (blk_drew BK3.out)
        have n4_ := Aside0.mk (below_drew1 HB.out)
        clear BK2 BK3 HB
        have BK2 := n2_
        have BK3 := n3_
        have HB := n4_
        clear n2_ n3_ n4_
        generalize wr.drew = w4 at BK2 BK3 HB hHeld ⊢
        refine pure_ (i := 0) (N := some 10) #[true, false, false, false, false, false, false, false] rfl rfl (by kernel_rfl) (fun _ _ _ h => h) (Or.inl ⟨by rfl, by intro w'; go_simp; with_reducible rfl⟩) (by simp only [Act.put, List.setIfInBounds_toArray, List.set_cons_zero, List.set_cons_succ]; rfl) ?_
        refine pure_ (i := 3) (N := some 13) #[true, false, false, true, false, false, false, false] rfl rfl (by kernel_rfl) (fun _ _ _ h => h) (Or.inl ⟨by rfl, by intro w'; go_simp; with_reducible rfl⟩) (by simp only [Act.put, List.setIfInBounds_toArray, List.set_cons_zero, List.set_cons_succ]; rfl) ?_
        refine pure_ (i := 1) (N := some 11) #[true, true, false, true, false, false, false, false] rfl rfl (by kernel_rfl) (fun _ _ _ h => h) (Or.inl ⟨by rfl, by intro w'; go_simp; with_reducible rfl⟩) (by simp only [Act.put, List.setIfInBounds_toArray, List.set_cons_zero, List.set_cons_succ]; rfl) ?_
        refine take_ (i := 2) (N := some 12) #[true, true, true, true, false, false, false, false] rfl rfl (by kernel_rfl) (fun _ _ _ h => h) (Or.inl ⟨by rfl, by intro w' hS_; obtain ⟨h1_, h2_⟩ := hS_; go_simp; with_reducible rfl⟩) hHeld (by simp only [Act.put, List.setIfInBounds_toArray, List.set_cons_zero, List.set_cons_succ]; rfl) ?_
        refine pure_ (i := 4) (N := some 14) #[true, true, true, true, true, false, false, false] rfl rfl (by kernel_rfl) (fun _ _ _ h => h) (Or.inl ⟨by rfl, by intro w'; go_simp; with_reducible rfl⟩) (by simp only [Act.put, List.setIfInBounds_toArray, List.set_cons_zero, List.set_cons_succ]; rfl) ?_
        refine take_ (i := 5) (N := some 15) #[true, true, true, true, true, true, false, false] rfl rfl (by kernel_rfl) (fun _ _ _ h => h) (Or.inl ⟨by rfl, by intro w' hS_; obtain ⟨h1_, h2_⟩ := hS_; go_simp; with_reducible rfl⟩) hHeld (by simp only [Act.put, List.setIfInBounds_toArray, List.set_cons_zero, List.set_cons_succ]; rfl) ?_
        refine one_ (i := 6) (N := some 16) #[true, true, true, true, true, true, true, false] rfl rfl (by kernel_rfl) (by decide) (fun K hK => ?_)
        refine goes_ Tryd.func57 (by kernel_rfl) rfl #[.agg (rowA fun x => d (16 * i + x)), .agg (rowA fun x => e (16 * i + x))] (by rfl) rfl rfl (by (try simp only [List.map_toArray, List.map_cons, List.map_nil]); first | done | rfl) ?_
        with_reducible refine (eq16_calls _ _ _).mono ?_
        rintro x w5 ⟨rfl, hb⟩
        refine ⟨_, rfl, ?_⟩
        rw [hq]
        have n2_ := Aside0.mk (blk_below BK2.out hb)
        have n3_ := Aside0.mk (blk_below BK3.out hb)
        have n4_ := Aside0.mk (below_step HB.out hb)
        clear BK2 BK3 HB hb
        have BK2 := n2_
        have BK3 := n3_
        have HB := n4_
        clear n2_ n3_ n4_
        refine hK.out _ _ ⟨lv23_sq BK2.out i HI.out, lv23_sq BK3.out i HI.out⟩ (fun hHeld => ?_)
        clear hK K
        refine norm_ (a' := ?_) ?_ ?_
        rotate_left
        · show Act.put _ (some 16) _ = _
          simp only [Act.put, List.setIfInBounds_toArray, List.set_cons_zero, List.set_cons_succ]
          rfl
        refine pure_ (i := 7) (N := some 17) #[true, true, true, true, true, true, true, true] rfl rfl (by kernel_rfl) (fun _ _ _ h => h) (Or.inl ⟨by rfl, by intro w'; go_simp; with_reducible rfl⟩) (by simp only [Act.put, List.setIfInBounds_toArray, List.set_cons_zero, List.set_cons_succ]; rfl) ?_
        refine done_ (by kernel_rfl) ?_
        (try simp only [Exit.inBlock, Exit.then])
        go_wp2
        clear hq
        go_ret
        exact ⟨by
          have hn : eqN 256 d e = false := by
            cases hh : eqN 256 d e with
            | false => rfl
            | true =>
              have h3 := eqN_true.1 hh
              have : eqN 16 (fun x => d (16 * i + x)) (fun x => e (16 * i + x)) = true := eqN_true.2 fun x hx => h3 _ (by have := HI.out; omega)
              rw [HQ.out] at this
              exact absurd this (by simp)
          rw [hn]
          first | done | rfl, by first | exact HB.out | exact pw_below_drewN HB.out _⟩
    · have hib : decide ((i : Int) < 16) = false := decide_eq_false hi
      have e : i = 16 := by have := HY.out; omega
      subst e
      clear hi
      go_wp2
      go_ret
      exact ⟨by rw [eqN_true.2 HE.out]; first | done | rfl, HB.out⟩
/-- Whether two bays are equal. -/
def eqBay (a0 b0 : Int) (d0 : Nat → Int) (a1 b1 : Int) (d1 : Nat → Int) : Bool := if a0 = a1 then (if b0 = b1 then eqN 256 d0 d1 else false) else false
set_option maxHeartbeats 8000000 in
set_option maxRecDepth 100000 in
theorem eqBay_calls (a0 b0 : Int) (d0 : Nat → Int) (a1 b1 : Int) (d1 : Nat → Int) (w : World) :
    Calls Tryd.prog 17 #[.agg (csBay a0 b0 d0), .agg (csBay a1 b1 d1)] w fun x w' => x = .returned (.bool (eqBay a0 b0 d0 a1 b1 d1)) ∧ Below w.heap.size w w' := by
  have hu28 := Tryd.underlying28
  have HB := Aside0.mk (Below.refl w.heap.size w)
  by_cases c1 : a0 = a1
  · have c1b : (a0 != a1) = false := bne_eq_false_iff_eq.mpr c1
    by_cases c2 : b0 = b1
    · have c2b : (b0 != b1) = false := bne_eq_false_iff_eq.mpr c2
      have hr : eqBay a0 b0 d0 a1 b1 d1 = eqN 256 d0 d1 := by unfold eqBay; rw [if_pos c1, if_pos c2]
      rw [hr]
      clear c1 c2 hr
      cases hq : eqN 256 d0 d1 with
      | true =>
        go_enter Tryd.func17, Tryd.ntmps17
        go_upto_region 1 with (first | ((with_reducible refine gate_dst (N := 2) rfl ?_); refine box_event ?hg (N := 2) ?hd (cs := csBay a0 b0 d0) (t := 28) ?hr ?_; (case hd => rfl); (case hg => rfl); (case hr => first | (go_simp; done) | (go_simp; rfl)); intro g2 hg w2 hbox hb; have n0_ := Aside0.mk (below_step HB.out hb); clear HB; have HB := n0_; clear n0_; have BK2 := Aside0.mk hbox; clear hbox hb hg) | ((with_reducible refine gate_dst (N := 3) rfl ?_); refine box_event ?hg (N := 3) ?hd (cs := csBay a1 b1 d1) (t := 28) ?hr ?_; (case hd => rfl); (case hg => rfl); (case hr => first | (go_simp; done) | (go_simp; rfl)); intro g3 hg w3 hbox hb; have m2_ := Aside0.mk (blk_below BK2.out hb); clear BK2; have BK2 := m2_; clear m2_; have n0_ := Aside0.mk (below_step HB.out hb); clear HB; have HB := n0_; clear n0_; have BK3 := Aside0.mk hbox; clear hbox hb hg))
        have hx2 := (blk_cell BK2.out 0).trans (csBay_0 a0 b0 d0)
        have hx3 := (blk_cell BK3.out 0).trans (csBay_0 a1 b1 d1)
        have hy2 := (blk_cell BK2.out 1).trans (csBay_1 a0 b0 d0)
        have hy3 := (blk_cell BK3.out 1).trans (csBay_1 a1 b1 d1)
        have hl2 := lv24_at BK2.out
        have hl3 := lv24_at BK3.out
        go_wp2_with (first | (go_at_call 40; (with_reducible refine (eqSq_calls _ _ _).mono ?_); rintro x w5 ⟨rfl, hb⟩; clear hl2 hl3 hx2 hx3 hy2 hy3; have m4 := Aside0.mk (below_step HB.out hb); clear hb BK2 BK3 HB; have HB := m4; clear m4; rw [hq]))
        go_ret
        exact ⟨rfl, HB.out⟩
      | false =>
        go_enter Tryd.func17, Tryd.ntmps17
        go_upto_region 1 with (first | ((with_reducible refine gate_dst (N := 2) rfl ?_); refine box_event ?hg (N := 2) ?hd (cs := csBay a0 b0 d0) (t := 28) ?hr ?_; (case hd => rfl); (case hg => rfl); (case hr => first | (go_simp; done) | (go_simp; rfl)); intro g2 hg w2 hbox hb; have n0_ := Aside0.mk (below_step HB.out hb); clear HB; have HB := n0_; clear n0_; have BK2 := Aside0.mk hbox; clear hbox hb hg) | ((with_reducible refine gate_dst (N := 3) rfl ?_); refine box_event ?hg (N := 3) ?hd (cs := csBay a1 b1 d1) (t := 28) ?hr ?_; (case hd => rfl); (case hg => rfl); (case hr => first | (go_simp; done) | (go_simp; rfl)); intro g3 hg w3 hbox hb; have m2_ := Aside0.mk (blk_below BK2.out hb); clear BK2; have BK2 := m2_; clear m2_; have n0_ := Aside0.mk (below_step HB.out hb); clear HB; have HB := n0_; clear n0_; have BK3 := Aside0.mk hbox; clear hbox hb hg))
        have hx2 := (blk_cell BK2.out 0).trans (csBay_0 a0 b0 d0)
        have hx3 := (blk_cell BK3.out 0).trans (csBay_0 a1 b1 d1)
        have hy2 := (blk_cell BK2.out 1).trans (csBay_1 a0 b0 d0)
        have hy3 := (blk_cell BK3.out 1).trans (csBay_1 a1 b1 d1)
        have hl2 := lv24_at BK2.out
        have hl3 := lv24_at BK3.out
        go_wp2_with (first | (go_at_call 40; (with_reducible refine (eqSq_calls _ _ _).mono ?_); rintro x w5 ⟨rfl, hb⟩; clear hl2 hl3 hx2 hx3 hy2 hy3; have m4 := Aside0.mk (below_step HB.out hb); clear hb BK2 BK3 HB; have HB := m4; clear m4; rw [hq]))
        go_ret
        exact ⟨rfl, HB.out⟩
    · have c2b : (b0 != b1) = true := bne_iff_ne.mpr c2
      have hr : eqBay a0 b0 d0 a1 b1 d1 = false := by unfold eqBay; rw [if_pos c1, if_neg c2]
      rw [hr]
      clear c1 c2 hr
      go_enter Tryd.func17, Tryd.ntmps17
      go_upto_region 1 with (first | ((with_reducible refine gate_dst (N := 2) rfl ?_); refine box_event ?hg (N := 2) ?hd (cs := csBay a0 b0 d0) (t := 28) ?hr ?_; (case hd => rfl); (case hg => rfl); (case hr => first | (go_simp; done) | (go_simp; rfl)); intro g2 hg w2 hbox hb; have n0_ := Aside0.mk (below_step HB.out hb); clear HB; have HB := n0_; clear n0_; have BK2 := Aside0.mk hbox; clear hbox hb hg) | ((with_reducible refine gate_dst (N := 3) rfl ?_); refine box_event ?hg (N := 3) ?hd (cs := csBay a1 b1 d1) (t := 28) ?hr ?_; (case hd => rfl); (case hg => rfl); (case hr => first | (go_simp; done) | (go_simp; rfl)); intro g3 hg w3 hbox hb; have m2_ := Aside0.mk (blk_below BK2.out hb); clear BK2; have BK2 := m2_; clear m2_; have n0_ := Aside0.mk (below_step HB.out hb); clear HB; have HB := n0_; clear n0_; have BK3 := Aside0.mk hbox; clear hbox hb hg))
      have hx2 := (blk_cell BK2.out 0).trans (csBay_0 a0 b0 d0)
      have hx3 := (blk_cell BK3.out 0).trans (csBay_0 a1 b1 d1)
      have hy2 := (blk_cell BK2.out 1).trans (csBay_1 a0 b0 d0)
      have hy3 := (blk_cell BK3.out 1).trans (csBay_1 a1 b1 d1)
      have hl2 := lv24_at BK2.out
      have hl3 := lv24_at BK3.out
      go_wp2
      go_ret
      exact ⟨rfl, HB.out⟩
  · have c1b : (a0 != a1) = true := bne_iff_ne.mpr c1
    have hr : eqBay a0 b0 d0 a1 b1 d1 = false := by unfold eqBay; rw [if_neg c1]
    rw [hr]
    clear c1 hr
    go_enter Tryd.func17, Tryd.ntmps17
    go_upto_region 1 with (first | ((with_reducible refine gate_dst (N := 2) rfl ?_); refine box_event ?hg (N := 2) ?hd (cs := csBay a0 b0 d0) (t := 28) ?hr ?_; (case hd => rfl); (case hg => rfl); (case hr => first | (go_simp; done) | (go_simp; rfl)); intro g2 hg w2 hbox hb; have n0_ := Aside0.mk (below_step HB.out hb); clear HB; have HB := n0_; clear n0_; have BK2 := Aside0.mk hbox; clear hbox hb hg) | ((with_reducible refine gate_dst (N := 3) rfl ?_); refine box_event ?hg (N := 3) ?hd (cs := csBay a1 b1 d1) (t := 28) ?hr ?_; (case hd => rfl); (case hg => rfl); (case hr => first | (go_simp; done) | (go_simp; rfl)); intro g3 hg w3 hbox hb; have m2_ := Aside0.mk (blk_below BK2.out hb); clear BK2; have BK2 := m2_; clear m2_; have n0_ := Aside0.mk (below_step HB.out hb); clear HB; have HB := n0_; clear n0_; have BK3 := Aside0.mk hbox; clear hbox hb hg))
    have hx2 := (blk_cell BK2.out 0).trans (csBay_0 a0 b0 d0)
    have hx3 := (blk_cell BK3.out 0).trans (csBay_0 a1 b1 d1)
    have hy2 := (blk_cell BK2.out 1).trans (csBay_1 a0 b0 d0)
    have hy3 := (blk_cell BK3.out 1).trans (csBay_1 a1 b1 d1)
    have hl2 := lv24_at BK2.out
    have hl3 := lv24_at BK3.out
    go_wp2
    go_ret
    exact ⟨rfl, HB.out⟩
end Go.Proofs.YteffdjfiialdfaaDoor.BayIn
