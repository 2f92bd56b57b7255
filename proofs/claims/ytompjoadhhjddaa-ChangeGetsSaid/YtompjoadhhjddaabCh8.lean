import Derived.Test.YtompjoadhhjddaabCh7
namespace Go.Vai.C
open Go.Proofs Go.Vai Go.Vai.G Go.Vai.L Go.Vai.O
set_option linter.unusedSimpArgs false
set_option linter.unusedVariables false

theorem ok_way (c : Ch) : chOK c = false ∨ chOK c = true := by cases chOK c <;> simp
theorem all_way2 (l : List Ch) : (allCh l && many l) = false ∨ (allCh l && many l) = true := by cases (allCh l && many l) <;> simp
theorem opt_no2 {α : Type} {o p : Option (List α)} (e : o = p) (h : p = none) : o.isNone = true ∧ o.getD [] = [] ∧ o.isSome = false := by subst e; subst h; exact ⟨rfl, rfl, rfl⟩
theorem opt_yes2 {α : Type} {o p : Option (List α)} {xs : List α} (e : o = p) (h : p = some xs) : o.isNone = false ∧ o.getD [] = xs ∧ o.isSome = true := by subst e; subst h; exact ⟨rfl, rfl, rfl⟩
theorem rf_no0 {l : List (BitVec 8)} (h : (l.length : Int) = 0) : rfGet l = none := by
  have : l = [] := List.eq_nil_of_length_eq_zero (by omega)
  subst this; rfl
theorem rf_no1 {l m : List (BitVec 8)} {k : Nat} {xs : List Ch} (hk : k < rfC l) (h : rfK (l.drop 1) k = some (xs, m)) (h2 : (chOK (gsC m) && decide ((chB (gsC m)).length ≤ m.length)) = false) : rfGet l = none := by
  have : rfK (l.drop 1) (rfC l) = none := rfK_none (k := k + 1) (by rw [rfK_some h, h2]; rfl) (by omega)
  rw [rfGet, this]; split <;> rfl
theorem rf_no3 {l m : List (BitVec 8)} {xs : List Ch} (h : rfK (l.drop 1) (rfC l) = some (xs, m)) (h2 : ((allCh xs && many xs) && decide (putB xs = l)) = false) : rfGet l = none := by
  rw [rfGet, h]; simp only [h2]; split <;> rfl
theorem rf_yes {l m : List (BitVec 8)} {xs : List Ch} (h0 : ¬ (l.length : Int) = 0) (h : rfK (l.drop 1) (rfC l) = some (xs, m)) (h2 : ((allCh xs && many xs) && decide (putB xs = l)) = true) : rfGet l = some xs := by
  rw [rfGet, gs_ne h0, h]; simp only [h2, if_true, Bool.false_eq_true, if_false]
theorem rf_next {l m : List (BitVec 8)} {k : Nat} {xs : List Ch} (h : rfK l k = some (xs, m)) (h1 : chOK (gsC m) = true) (h2 : ¬ ((chB (gsC m)).length : Int) > (m.length : Int)) : rfK l (k + 1) = some (xs ++ [gsC m], m.drop (chB (gsC m)).length) := by
  rw [rfK_some h, h1, decide_eq_true (show (chB (gsC m)).length ≤ m.length by omega)]; rfl
theorem all_push {xs : List Ch} {c : Ch} (h : allCh xs = true) (h1 : chOK c = true) : allCh (xs ++ [c]) = true := by
  rw [allCh] at h ⊢; rw [List.all_append, h, List.all_cons, h1]; rfl
set_option maxHeartbeats 4000000 in
set_option maxRecDepth 100000 in
theorem good_refGetC (nil : Bool) (l : List (BitVec 8)) (hl : l.length ≤ 140737488355000) : Good Try.prog 44 [(.sl 1 nil (bsl l), false)] [] [(.sl 6 (chGet l).isNone (((chGet l).getD []).map chA), false), (.b (chGet l).isSome, false)] [] := by
  refine good_of_body3 59 Try.func44 rfl rfl rfl (by simp) ?_
  intro s m ha hr hv hG
  have f0 : s 0 = .v (.sl 1 nil (bsl l)) := ha 0 _ rfl
  clear ha
  have v0 := (l.getD 0 default).isLt
  refine AW.seq ?_
  refine AW.region (cfg := cfg) ?_
  iterate 2 (apply aops_step (by decide) rfl; · (intro K hK; simp (disch := first | omega | decide) only [go_sem, f0, sz65, cellsOf_ch, cellsOf_lsa, getD_get, Int.reduceToNat, Int.toNat_zero, Int.toNat_natCast]; exact hK _))
  refine aops_nil ?_
  refine AW.seq ?_
  refine AW.seq ?_
  refine AW.region (cfg := cfg) ?_
  iterate 3 (apply aops_step (by decide) rfl; · (intro K hK; simp (disch := first | omega | decide) only [go_sem, f0, List.map, List.length_map, aops_len u25, cellsOf_ch, cellsOf_lsa, getD_get, Int.reduceToNat, Int.toNat_zero, Int.toNat_natCast]; exact hK _))
  refine aops_nil ?_
  apply AW.cond
  · simp (disch := first | omega | decide) only [go_sem, f0, cellsOf_ch, cellsOf_lsa, getD_get, Int.reduceToNat, Int.toNat_zero, Int.toNat_natCast]; rfl
  case ht =>
    intro hb
    try simp only [Bool.or_eq_true, Bool.and_eq_true, Bool.or_eq_false_iff, Bool.and_eq_false_iff, decide_eq_true_eq, decide_eq_false_iff_not] at hb
    have hbt10 := hb
    refine AW.seq ?_
    refine AW.region (cfg := cfg) ?_
    iterate 2 (apply aops_step (by decide) rfl; · (intro K hK; simp (disch := first | omega | decide) only [go_sem, f0, sz65, cellsOf_ch, cellsOf_lsa, getD_get, Int.reduceToNat, Int.toNat_zero, Int.toNat_natCast]; exact hK _))
    refine aops_nil ?_
    refine AW.ret ?_
    refine ⟨.inr rfl, ?_⟩
    (have zz : rfGet l = none := rf_no0 hbt10)
    (have zq : rfGet l = none := zz; obtain ⟨e1, e2, e3⟩ := opt_no2 (get_ref l) zq; rw [e1, e2, e3]; refine leavesN ?_; refine leaves_mwp2 (rs := [.tmp 2, .tmp 3]) rfl ?_; simp (config := {failIfUnchanged := false}) [giveL, srcOne, rehome, freezeN, sub, upd, opn, aLoad, loadL, giveOne, reify, reifyL, readL, readOne, Mwp, M.bind, Mem.set, setAt, cellsL, hG, f0]; done)
  case hf =>
    intro hb
    try simp only [Bool.or_eq_true, Bool.and_eq_true, Bool.or_eq_false_iff, Bool.and_eq_false_iff, decide_eq_true_eq, decide_eq_false_iff_not] at hb
    have hbt10 := hb
    refine AW.skip ?_
    refine AW.seq ?_
    refine AW.region (cfg := cfg) ?_
    apply aops_step (by decide) rfl
    · intro K hK
      rw [act_bs el65 ti74]
      (simp [-List.map_take, -List.map_drop, -BitVec.toNat_ofInt, -BitVec.ofInt_natCast, -BitVec.toNat_setWidth, -BitVec.toNat_ushiftRight, -BitVec.toNat_umod, -BitVec.toNat_udiv, go_sem, elems_v, cellishAV, Value.oneCell', isAggAV, partsOf, TI.z, TI.mk1, f0]; exact hK _)
    apply aops_step (by decide) rfl
    · intro K hK
      simp (disch := first | omega | decide) only [go_sem, f0, cellsOf_ch, cellsOf_lsa, getD_get, Int.reduceToNat, Int.toNat_zero, Int.toNat_natCast]
      rw [asg_tmp (by simp (disch := first | omega | decide) only [go_sem, f0, cellsOf_ch, cellsOf_lsa, getD_get, Int.reduceToNat, Int.toNat_zero, Int.toNat_natCast]; rfl)]
      exact hK _
    refine aops_nil ?_
    refine AW.seq ?_
    refine AW.region (cfg := cfg) ?_
    iterate 3 (apply aops_step (by decide) rfl; · (intro K hK; simp (disch := first | omega | decide) only [go_sem, f0, act_slice_s u25 ti5, cellsOf_ch, cellsOf_lsa, getD_get, Int.reduceToNat, Int.toNat_zero, Int.toNat_natCast]; exact hK _))
    refine aops_nil ?_
    refine AW.seq ?_
    refine AW.seq ?_
    refine AW.region (cfg := cfg) ?_
    iterate 1 (apply aops_step (by decide) rfl; · (intro K hK; simp (disch := first | omega | decide) only [go_sem, f0, cellsOf_ch, cellsOf_lsa, getD_get, Int.reduceToNat, Int.toNat_zero, Int.toNat_natCast]; exact hK _))
    refine aops_nil ?_
    refine AW.block ?_
    refine AW.forN (fun k σ => ∃ (s : Nat → LV) (m : Mem) (xs : List Ch) (m0 : List (BitVec 8)), σ = ⟨59, s, m⟩ ∧ s 0 = .v (.sl 1 nil (bsl l)) ∧ s 4 = .own (.var 4) (m.objs (.var 4)).1 0 (xs.length) ∧ (m.objs (.var 4)).2 = .arr false 6 (xs.map chA) ∧ s 5 = .v (.sl 1 nil (bsl m0)) ∧ s 6 = .v (i64 (k : Int)) ∧ (rfK (l.drop 1) k = some (xs, m0)) ∧ (m0.length ≤ l.length) ∧ (allCh xs = true) ∧ (xs.length = k) ∧ (∀ i, (m.objs (.res i)).2 = .dead) ∧ m.G = []) (min (l.getD 0 default).toNat 41) ?_ ?_ ?_
    · refine ⟨_, _, [], (l.drop 1), rfl, ?_, ?_, ?_, ?_, ?_, ?_, ?_, ?_, ?_, (by intro i; simp [Mem.set, hr]), (by exact hG)⟩ <;> try simp (disch := first | omega | decide) only [go_sem, f0, cellsOf_ch, cellsOf_lsa, getD_get, Int.reduceToNat, Int.toNat_zero, Int.toNat_natCast]
      all_goals first | rfl | (simp; done)
    · clear f0 hr hG
      rintro k σ hk ⟨s, m, xs, m0, rfl, f0, f4, o4, f5, f6, mo0, mo1, mo2, mo3, hr, hG⟩
      obtain ⟨g4, o4⟩ : ∃ g, m.objs (.var 4) = (g, .arr false 6 (xs.map chA)) := ⟨_, Prod.ext rfl o4⟩
      rw [o4] at f4
      refine AW.seq ?_
      refine AW.seq ?_
      refine AW.region (cfg := cfg) ?_
      iterate 2 (apply aops_step (by decide) rfl; · (intro K hK; simp (disch := first | omega | decide) only [go_sem, f0, f4, f5, f6, o4, cellsOf_ch, cellsOf_lsa, getD_get, Int.reduceToNat, Int.toNat_zero, Int.toNat_natCast]; exact hK _))
      apply aops_step (by decide) rfl
      · intro K hK
        simp (disch := first | omega | decide) only [go_sem, f0, f4, f5, f6, o4, act_indexAddr_s u25 ti5, List.map, cellsOf_ch, cellsOf_lsa, getD_get, Int.reduceToNat, Int.toNat_zero, Int.toNat_natCast]
        skip
        exact hK _
      apply aops_step (by decide) rfl
      · intro K hK
        simp (disch := first | omega | decide) only [go_sem, f0, f4, f5, f6, o4, act_load_t ti5, List.map, cellsOf_ch, cellsOf_lsa, getD_get, Int.reduceToNat, Int.toNat_zero, Int.toNat_natCast]
        skip
        exact hK _
      iterate 3 (apply aops_step (by decide) rfl; · (intro K hK; simp (disch := first | omega | decide) only [go_sem, f0, f4, f5, f6, o4, act_convI u5 u3, cellsOf_ch, cellsOf_lsa, getD_get, Int.reduceToNat, Int.toNat_zero, Int.toNat_natCast]; exact hK _))
      apply aops_merge' (by decide) (by exact want_of (d := 20) rfl (by simp (disch := first | omega | decide) only [go_sem, f0, f4, f5, f6, o4, opn_cond, cellsOf_ch, cellsOf_lsa, getD_get, Int.reduceToNat, Int.toNat_zero, Int.toNat_natCast]; rfl))
      · intro hc K hK
        have hc2 := hc
        simp only [beq_iff_eq, decide_eq_true_eq, decide_eq_false_iff_not, Bool.or_eq_true, Bool.and_eq_true, Bool.or_eq_false_iff, Bool.and_eq_false_iff] at hc2
        simp (disch := first | omega | decide) only [go_sem, f0, f4, f5, f6, o4, opn_cond, hc, if_true, cellsOf_ch, cellsOf_lsa, getD_get, Int.reduceToNat, Int.toNat_zero, Int.toNat_natCast]
        exact hK _
      apply aops_merge' (by decide) (by exact want_of (d := 20) rfl (by simp (disch := first | omega | decide) only [go_sem, f0, f4, f5, f6, o4, opn_cond, cellsOf_ch, cellsOf_lsa, getD_get, Int.reduceToNat, Int.toNat_zero, Int.toNat_natCast]; rfl))
      · intro hc K hK
        have hc2 := hc
        simp only [beq_iff_eq, decide_eq_true_eq, decide_eq_false_iff_not, Bool.or_eq_true, Bool.and_eq_true, Bool.or_eq_false_iff, Bool.and_eq_false_iff] at hc2
        simp (disch := first | omega | decide) only [go_sem, f0, f4, f5, f6, o4, opn_cond, hc, if_true, cellsOf_ch, cellsOf_lsa, getD_get, Int.reduceToNat, Int.toNat_zero, Int.toNat_natCast]
        exact hK _
      iterate 1 (apply aops_step (by decide) rfl; · (intro K hK; simp (disch := first | omega | decide) only [go_sem, f0, f4, f5, f6, o4, cellsOf_ch, cellsOf_lsa, getD_get, Int.reduceToNat, Int.toNat_zero, Int.toNat_natCast]; exact hK _))
      refine aops_nil ?_
      apply AW.cond
      · simp (disch := first | omega | decide) only [go_sem, f0, f4, f5, f6, o4, cellsOf_ch, cellsOf_lsa, getD_get, Int.reduceToNat, Int.toNat_zero, Int.toNat_natCast]; rfl
      case hf => intro hb; (simp only [Bool.and_eq_false_iff, decide_eq_false_iff_not] at hb; omega)
      case ht =>
      intro hb
      have hbt23 := hb
      refine AW.skip ?_
      refine AW.seq ?_
      refine AW.block ?_
      refine AW.seq ?_
      have gsm := gs_small m0
      have gsl : (gsC m0).l.ls.length ≤ 9223372036854775807 := by omega
      refine AW.region (cfg := cfg) ?_
      iterate 1 (apply aops_step (by decide) rfl; · (intro K hK; simp (disch := first | omega | decide) only [go_sem, f0, f4, f5, f6, o4, cellsOf_ch, cellsOf_lsa, getD_get, Int.reduceToNat, Int.toNat_zero, Int.toNat_natCast]; exact hK _))
      apply aops_step (by decide) rfl
      · intro K hK
        simp (disch := first | omega | decide) only [go_sem, f0, f4, f5, f6, o4, act_call, List.map, cellsOf_ch, cellsOf_lsa, getD_get, Int.reduceToNat, Int.toNat_zero, Int.toNat_natCast]
        apply mwp_call_r rfl rfl rfl
        · intro Q hQ
          (simp (disch := first | omega | decide) only [go_sem, f0, f4, f5, f6, o4, peekL, reifyL_nil, reifyL_cons, reify_v, cellsOf_ch, cellsOf_lsa, getD_get, Int.reduceToNat, Int.toNat_zero, Int.toNat_natCast]; (exact hQ))
        · exact good_guessC nil m0 (by omega)
        · simp [-List.map_take, -List.map_drop, -List.map_append, -List.map_replicate, -List.reduceReplicate, noPtrL, noPtr, noPtrL_bsl, noPtrL_map, sub]
        · simp (disch := first | omega | decide) only [go_sem, f0, f4, f5, f6, o4, cellsOf_ch, cellsOf_lsa, getD_get, Int.reduceToNat, Int.toNat_zero, Int.toNat_natCast]
          exact hK _
      apply aops_step (by decide) rfl
      · intro K hK
        simp (disch := first | omega | decide) only [go_sem, f0, f4, f5, f6, o4, act_alloc_t ti74, List.map, cellsOf_ch, cellsOf_lsa, getD_get, Int.reduceToNat, Int.toNat_zero, Int.toNat_natCast]
        exact hK _
      apply aops_step0 rfl
      · intro K hK
        simp (disch := first | omega | decide) only [go_sem, f0, f4, f5, f6, o4, act_store_t ti74, List.map, cellsOf_ch, cellsOf_lsa, getD_get, Int.reduceToNat, Int.toNat_zero, Int.toNat_natCast]
        rw [mwp_store_c (by simp (disch := first | omega | decide) only [go_sem, f0, f4, f5, f6, o4, cellsOf_ch, cellsOf_lsa, getD_get, Int.reduceToNat, Int.toNat_zero, Int.toNat_natCast]; rfl) (by rfl) (by rfl) (by rfl) (by simp)]
        try simp only [setAt, cellsL, cellsOf_agg, cellsOf_base, List.map_cons, List.map_nil, List.set_cons_zero, List.set_cons_succ, Nat.reduceAdd, Nat.zero_add, hG]
        exact hK _
      refine aops_nil ?_
      refine AW.seq ?_
      refine AW.seq ?_
      rcases ok_way (gsC m0) with hco | hco
      · skip
        have hcp := hco
        refine AW.region (cfg := cfg) ?_
        apply aops_step (by decide) rfl
        · intro K hK
          simp (disch := first | omega | decide) only [go_sem, f0, f4, f5, f6, o4, hco, act_load_t ti74, List.map, cellsOf_ch, cellsOf_lsa, getD_get, Int.reduceToNat, Int.toNat_zero, Int.toNat_natCast]
          rw [mwp_load_bs (by simp (disch := first | omega | decide) only [go_sem, f0, f4, f5, f6, o4, hco, cellsOf_ch, cellsOf_lsa, getD_get, Int.reduceToNat, Int.toNat_zero, Int.toNat_natCast]; rfl) (by simp [setAt])]
          exact hK _
        apply aops_step (by decide) rfl
        · intro K hK
          simp (disch := first | omega | decide) only [go_sem, f0, f4, f5, f6, o4, hco, act_call, List.map, cellsOf_ch, cellsOf_lsa, getD_get, Int.reduceToNat, Int.toNat_zero, Int.toNat_natCast]
          apply mwp_call_s rfl rfl rfl
          · intro Q hQ
            (simp (disch := first | omega | decide) only [go_sem, f0, f4, f5, f6, o4, hco, peekL, reifyL_nil, reifyL_cons, reify_v, cellsOf_ch, cellsOf_lsa, getD_get, Int.reduceToNat, Int.toNat_zero, Int.toNat_natCast]; (exact hQ))
          · exact good_refMayC (gsC m0) gsl
          · simp [-List.map_take, -List.map_drop, -List.map_append, -List.map_replicate, -List.reduceReplicate, noPtrL, noPtr, noPtrL_bsl, noPtrL_map, sub]
          · rfl
          · exact hK _
        iterate 2 (apply aops_step (by decide) rfl; · (intro K hK; simp (disch := first | omega | decide) only [go_sem, f0, f4, f5, f6, o4, hco, cellsOf_ch, cellsOf_lsa, getD_get, Int.reduceToNat, Int.toNat_zero, Int.toNat_natCast]; exact hK _))
        apply aops_skip' (by decide) rfl
        apply aops_skip' (by decide) rfl
        apply aops_skip' (by decide) rfl
        apply aops_skip' (by decide) rfl
        apply aops_skip' (by decide) rfl
        apply aops_skip' (by decide) rfl
        iterate 1 (apply aops_step (by decide) rfl; · (intro K hK; simp (disch := first | omega | decide) only [go_sem, f0, f4, f5, f6, o4, hco, cellsOf_ch, cellsOf_lsa, getD_get, Int.reduceToNat, Int.toNat_zero, Int.toNat_natCast]; exact hK _))
        refine aops_nil ?_
        apply AW.cond
        · simp (disch := first | omega | decide) only [go_sem, f0, f4, f5, f6, o4, hco, cellsOf_ch, cellsOf_lsa, getD_get, Int.reduceToNat, Int.toNat_zero, Int.toNat_natCast]; rfl
        case hf => intro hb; simp at hb
        case ht =>
        intro hb
        have hbt38 := hb
        refine AW.seq ?_
        refine AW.region (cfg := cfg) ?_
        iterate 2 (apply aops_step (by decide) rfl; · (intro K hK; simp (disch := first | omega | decide) only [go_sem, f0, f4, f5, f6, o4, hco, sz65, cellsOf_ch, cellsOf_lsa, getD_get, Int.reduceToNat, Int.toNat_zero, Int.toNat_natCast]; exact hK _))
        refine aops_nil ?_
        refine AW.ret ?_
        refine ⟨.inr rfl, ?_⟩
        (have zz : rfGet l = none := rf_no1 hk mo0 (by rw [hco]; rfl))
        (have zq : rfGet l = none := zz; obtain ⟨e1, e2, e3⟩ := opt_no2 (get_ref l) zq; rw [e1, e2, e3]; refine leavesN ?_; refine leaves_mwp2 (rs := [.tmp 2, .tmp 3]) rfl ?_; simp (config := {failIfUnchanged := false}) [giveL, srcOne, rehome, freezeN, sub, upd, opn, aLoad, loadL, giveOne, reify, reifyL, readL, readOne, Mwp, M.bind, Mem.set, setAt, cellsL, hG, f0, f4, f5, f6, o4, hco]; done)
      · skip
        have hcp := hco
        have cbl := chB_len hco
        have gok := hco
        refine AW.region (cfg := cfg) ?_
        apply aops_step (by decide) rfl
        · intro K hK
          simp (disch := first | omega | decide) only [go_sem, f0, f4, f5, f6, o4, hco, act_load_t ti74, List.map, cellsOf_ch, cellsOf_lsa, getD_get, Int.reduceToNat, Int.toNat_zero, Int.toNat_natCast]
          rw [mwp_load_bs (by simp (disch := first | omega | decide) only [go_sem, f0, f4, f5, f6, o4, hco, cellsOf_ch, cellsOf_lsa, getD_get, Int.reduceToNat, Int.toNat_zero, Int.toNat_natCast]; rfl) (by simp [setAt])]
          exact hK _
        apply aops_step (by decide) rfl
        · intro K hK
          simp (disch := first | omega | decide) only [go_sem, f0, f4, f5, f6, o4, hco, act_call, List.map, cellsOf_ch, cellsOf_lsa, getD_get, Int.reduceToNat, Int.toNat_zero, Int.toNat_natCast]
          apply mwp_call_s rfl rfl rfl
          · intro Q hQ
            (simp (disch := first | omega | decide) only [go_sem, f0, f4, f5, f6, o4, hco, peekL, reifyL_nil, reifyL_cons, reify_v, cellsOf_ch, cellsOf_lsa, getD_get, Int.reduceToNat, Int.toNat_zero, Int.toNat_natCast]; (exact hQ))
          · exact good_refMayC (gsC m0) gsl
          · simp [-List.map_take, -List.map_drop, -List.map_append, -List.map_replicate, -List.reduceReplicate, noPtrL, noPtr, noPtrL_bsl, noPtrL_map, sub]
          · rfl
          · exact hK _
        iterate 2 (apply aops_step (by decide) rfl; · (intro K hK; simp (disch := first | omega | decide) only [go_sem, f0, f4, f5, f6, o4, hco, cellsOf_ch, cellsOf_lsa, getD_get, Int.reduceToNat, Int.toNat_zero, Int.toNat_natCast]; exact hK _))
        apply aops_step (by decide) rfl
        · intro K hK
          simp (disch := first | omega | decide) only [go_sem, f0, f4, f5, f6, o4, hco, act_load_t ti74, List.map, cellsOf_ch, cellsOf_lsa, getD_get, Int.reduceToNat, Int.toNat_zero, Int.toNat_natCast]
          rw [mwp_load_bs (by simp (disch := first | omega | decide) only [go_sem, f0, f4, f5, f6, o4, hco, cellsOf_ch, cellsOf_lsa, getD_get, Int.reduceToNat, Int.toNat_zero, Int.toNat_natCast]; rfl) (by simp [setAt])]
          exact hK _
        apply aops_step (by decide) rfl
        · intro K hK
          simp (disch := first | omega | decide) only [go_sem, f0, f4, f5, f6, o4, hco, act_call, List.map, cellsOf_ch, cellsOf_lsa, getD_get, Int.reduceToNat, Int.toNat_zero, Int.toNat_natCast]
          apply mwp_call_r rfl rfl rfl
          · intro Q hQ
            (simp (disch := first | omega | decide) only [go_sem, f0, f4, f5, f6, o4, hco, peekL, reifyL_nil, reifyL_cons, reify_v, cellsOf_ch, cellsOf_lsa, getD_get, Int.reduceToNat, Int.toNat_zero, Int.toNat_natCast]; (exact hQ))
          · exact good_OneC (gsC m0) gok gsl
          · simp [-List.map_take, -List.map_drop, -List.map_append, -List.map_replicate, -List.reduceReplicate, noPtrL, noPtr, noPtrL_bsl, noPtrL_map, sub]
          · simp (disch := first | omega | decide) only [go_sem, f0, f4, f5, f6, o4, hco, cellsOf_ch, cellsOf_lsa, getD_get, Int.reduceToNat, Int.toNat_zero, Int.toNat_natCast]
            exact hK _
        iterate 5 (apply aops_step (by decide) rfl; · (intro K hK; simp (disch := first | omega | decide) only [go_sem, f0, f4, f5, f6, o4, hco, List.map, List.length_map, aops_len u25, cellsOf_ch, cellsOf_lsa, getD_get, Int.reduceToNat, Int.toNat_zero, Int.toNat_natCast]; exact hK _))
        refine aops_nil ?_
        apply AW.cond
        · simp (disch := first | omega | decide) only [go_sem, f0, f4, f5, f6, o4, hco, cellsOf_ch, cellsOf_lsa, getD_get, Int.reduceToNat, Int.toNat_zero, Int.toNat_natCast]; rfl
        case ht =>
          intro hb
          try simp only [Bool.or_eq_true, Bool.and_eq_true, Bool.or_eq_false_iff, Bool.and_eq_false_iff, decide_eq_true_eq, decide_eq_false_iff_not] at hb
          have hbt38 := hb
          refine AW.seq ?_
          refine AW.region (cfg := cfg) ?_
          iterate 2 (apply aops_step (by decide) rfl; · (intro K hK; simp (disch := first | omega | decide) only [go_sem, f0, f4, f5, f6, o4, hco, sz65, cellsOf_ch, cellsOf_lsa, getD_get, Int.reduceToNat, Int.toNat_zero, Int.toNat_natCast]; exact hK _))
          refine aops_nil ?_
          refine AW.ret ?_
          refine ⟨.inr rfl, ?_⟩
          (have zz : rfGet l = none := rf_no1 hk mo0 (by rw [hco, decide_eq_false (by omega)]; rfl))
          (have zq : rfGet l = none := zz; obtain ⟨e1, e2, e3⟩ := opt_no2 (get_ref l) zq; rw [e1, e2, e3]; refine leavesN ?_; refine leaves_mwp2 (rs := [.tmp 2, .tmp 3]) rfl ?_; simp (config := {failIfUnchanged := false}) [giveL, srcOne, rehome, freezeN, sub, upd, opn, aLoad, loadL, giveOne, reify, reifyL, readL, readOne, Mwp, M.bind, Mem.set, setAt, cellsL, hG, f0, f4, f5, f6, o4, hco]; done)
        case hf =>
          intro hb
          try simp only [Bool.or_eq_true, Bool.and_eq_true, Bool.or_eq_false_iff, Bool.and_eq_false_iff, decide_eq_true_eq, decide_eq_false_iff_not] at hb
          have hbt38 := hb
          refine AW.skip ?_
          refine AW.seq ?_
          refine AW.region (cfg := cfg) ?_
          iterate 1 (apply aops_step (by decide) rfl; · (intro K hK; simp (disch := first | omega | decide) only [go_sem, f0, f4, f5, f6, o4, hco, cellsOf_ch, cellsOf_lsa, getD_get, Int.reduceToNat, Int.toNat_zero, Int.toNat_natCast]; exact hK _))
          apply aops_step (by decide) rfl
          · intro K hK
            simp (disch := first | omega | decide) only [go_sem, f0, f4, f5, f6, o4, hco, act_load_t ti74, List.map, cellsOf_ch, cellsOf_lsa, getD_get, Int.reduceToNat, Int.toNat_zero, Int.toNat_natCast]
            rw [mwp_load_bs (by simp (disch := first | omega | decide) only [go_sem, f0, f4, f5, f6, o4, hco, cellsOf_ch, cellsOf_lsa, getD_get, Int.reduceToNat, Int.toNat_zero, Int.toNat_natCast]; rfl) (by simp [setAt])]
            exact hK _
          apply aops_step (by decide) rfl
          · intro K hK
            rw [act_bs el65 ti74]
            (simp [-List.map_take, -List.map_drop, -BitVec.toNat_ofInt, -BitVec.ofInt_natCast, -BitVec.toNat_setWidth, -BitVec.toNat_ushiftRight, -BitVec.toNat_umod, -BitVec.toNat_udiv, go_sem, elems_v, cellishAV, Value.oneCell', isAggAV, partsOf, TI.z, TI.mk1, f0, f4, f5, f6, o4, hco]; exact hK _)
          apply aops_step (by decide) rfl
          · intro K hK
            simp (disch := first | omega | decide) only [go_sem, f0, f4, f5, f6, o4, hco, List.map, cellsOf_ch, cellsOf_lsa, getD_get, Int.reduceToNat, Int.toNat_zero, Int.toNat_natCast]
            apply mwp_append2 el65 ti74 u65
            case hpk => intro Q hQ; (rw [peek_own (by simp (disch := first | omega | decide) only [go_sem, f0, f4, f5, f6, o4, hco, cellsOf_ch, cellsOf_lsa, getD_get, Int.reduceToNat, Int.toNat_zero, Int.toNat_natCast]; rfl)]; (try rw [sub_full (by rfl)]); exact hQ)
            case hs' => rfl
            case ho => simp (disch := first | omega | decide) only [go_sem, f0, f4, f5, f6, o4, hco, cellsOf_ch, cellsOf_lsa, getD_get, Int.reduceToNat, Int.toNat_zero, Int.toNat_natCast]; rfl
            case hsz => rfl
            case hhi => (simp; done)
            case hb => (simp [sub, roomB]; omega)
            case hy => exact all_cells rfl
            case k => (try simp only [List.nil_append, ← List.map_append, Bool.false_and]); exact hK _
          apply aops_step (by decide) rfl
          · intro K hK
            simp (disch := first | omega | decide) only [go_sem, f0, f4, f5, f6, o4, hco, cellsOf_ch, cellsOf_lsa, getD_get, Int.reduceToNat, Int.toNat_zero, Int.toNat_natCast]
            rw [asg_tmp (by simp (disch := first | omega | decide) only [go_sem, f0, f4, f5, f6, o4, hco, cellsOf_ch, cellsOf_lsa, getD_get, Int.reduceToNat, Int.toNat_zero, Int.toNat_natCast]; rfl)]
            exact hK _
          refine aops_nil ?_
          refine AW.region (cfg := cfg) ?_
          iterate 1 (apply aops_step (by decide) rfl; · (intro K hK; simp (disch := first | omega | decide) only [go_sem, f0, f4, f5, f6, o4, hco, cellsOf_ch, cellsOf_lsa, getD_get, Int.reduceToNat, Int.toNat_zero, Int.toNat_natCast]; exact hK _))
          apply aops_step (by decide) rfl
          · intro K hK
            simp (disch := first | omega | decide) only [go_sem, f0, f4, f5, f6, o4, hco, act_load_t ti74, List.map, cellsOf_ch, cellsOf_lsa, getD_get, Int.reduceToNat, Int.toNat_zero, Int.toNat_natCast]
            rw [mwp_load_bs (by simp (disch := first | omega | decide) only [go_sem, f0, f4, f5, f6, o4, hco, cellsOf_ch, cellsOf_lsa, getD_get, Int.reduceToNat, Int.toNat_zero, Int.toNat_natCast]; rfl) (by simp [setAt])]
            exact hK _
          apply aops_step (by decide) rfl
          · intro K hK
            simp (disch := first | omega | decide) only [go_sem, f0, f4, f5, f6, o4, hco, act_call, List.map, cellsOf_ch, cellsOf_lsa, getD_get, Int.reduceToNat, Int.toNat_zero, Int.toNat_natCast]
            apply mwp_call_r rfl rfl rfl
            · intro Q hQ
              (simp (disch := first | omega | decide) only [go_sem, f0, f4, f5, f6, o4, hco, peekL, reifyL_nil, reifyL_cons, reify_v, cellsOf_ch, cellsOf_lsa, getD_get, Int.reduceToNat, Int.toNat_zero, Int.toNat_natCast]; (exact hQ))
            · exact good_OneC (gsC m0) gok gsl
            · simp [-List.map_take, -List.map_drop, -List.map_append, -List.map_replicate, -List.reduceReplicate, noPtrL, noPtr, noPtrL_bsl, noPtrL_map, sub]
            · simp (disch := first | omega | decide) only [go_sem, f0, f4, f5, f6, o4, hco, cellsOf_ch, cellsOf_lsa, getD_get, Int.reduceToNat, Int.toNat_zero, Int.toNat_natCast]
              exact hK _
          iterate 3 (apply aops_step (by decide) rfl; · (intro K hK; simp (disch := first | omega | decide) only [go_sem, f0, f4, f5, f6, o4, hco, List.map, List.length_map, aops_len u25, act_slice_s u25 ti5, cellsOf_ch, cellsOf_lsa, getD_get, Int.reduceToNat, Int.toNat_zero, Int.toNat_natCast]; exact hK _))
          refine aops_nil ?_
          refine AW.region (cfg := cfg) ?_
          iterate 3 (apply aops_step (by decide) rfl; · (intro K hK; simp (disch := first | omega | decide) only [go_sem, f0, f4, f5, f6, o4, hco, cellsOf_ch, cellsOf_lsa, getD_get, Int.reduceToNat, Int.toNat_zero, Int.toNat_natCast]; exact hK _))
          refine aops_nil ?_
          refine ⟨_, _, xs ++ [gsC m0], m0.drop (chB (gsC m0)).length, rfl, ?_, ?_, ?_, ?_, ?_, ?_, ?_, ?_, ?_, (by intro i; simp [Mem.set, hr]), (by exact hG)⟩ <;> try simp (disch := first | omega | decide) only [go_sem, f0, f4, f5, f6, o4, hco, cellsOf_ch, cellsOf_lsa, getD_get, Int.reduceToNat, Int.toNat_zero, Int.toNat_natCast]
          all_goals first | rfl | exact rf_next mo0 hco (by omega) | exact all_push mo2 hco | (simp; done) | (simp; omega) | (simp [chA]; done)
    · clear f0 hr hG
      rintro σ ⟨s, m, xs, m0, rfl, f0, f4, o4, f5, f6, mo0, mo1, mo2, mo3, hr, hG⟩
      obtain ⟨g4, o4⟩ : ∃ g, m.objs (.var 4) = (g, .arr false 6 (xs.map chA)) := ⟨_, Prod.ext rfl o4⟩
      rw [o4] at f4
      refine AW.seq ?_
      refine AW.seq ?_
      refine AW.region (cfg := cfg) ?_
      iterate 2 (apply aops_step (by decide) rfl; · (intro K hK; simp (disch := first | omega | decide) only [go_sem, f0, f4, f5, f6, o4, cellsOf_ch, cellsOf_lsa, getD_get, Int.reduceToNat, Int.toNat_zero, Int.toNat_natCast]; exact hK _))
      apply aops_step (by decide) rfl
      · intro K hK
        simp (disch := first | omega | decide) only [go_sem, f0, f4, f5, f6, o4, act_indexAddr_s u25 ti5, List.map, cellsOf_ch, cellsOf_lsa, getD_get, Int.reduceToNat, Int.toNat_zero, Int.toNat_natCast]
        skip
        exact hK _
      apply aops_step (by decide) rfl
      · intro K hK
        simp (disch := first | omega | decide) only [go_sem, f0, f4, f5, f6, o4, act_load_t ti5, List.map, cellsOf_ch, cellsOf_lsa, getD_get, Int.reduceToNat, Int.toNat_zero, Int.toNat_natCast]
        skip
        exact hK _
      iterate 3 (apply aops_step (by decide) rfl; · (intro K hK; simp (disch := first | omega | decide) only [go_sem, f0, f4, f5, f6, o4, act_convI u5 u3, cellsOf_ch, cellsOf_lsa, getD_get, Int.reduceToNat, Int.toNat_zero, Int.toNat_natCast]; exact hK _))
      apply aops_merge' (by decide) (by exact want_of (d := 20) rfl (by simp (disch := first | omega | decide) only [go_sem, f0, f4, f5, f6, o4, opn_cond, cellsOf_ch, cellsOf_lsa, getD_get, Int.reduceToNat, Int.toNat_zero, Int.toNat_natCast]; rfl))
      · intro hc K hK
        have hc2 := hc
        simp only [beq_iff_eq, decide_eq_true_eq, decide_eq_false_iff_not, Bool.or_eq_true, Bool.and_eq_true, Bool.or_eq_false_iff, Bool.and_eq_false_iff] at hc2
        simp (disch := first | omega | decide) only [go_sem, f0, f4, f5, f6, o4, opn_cond, hc, if_true, cellsOf_ch, cellsOf_lsa, getD_get, Int.reduceToNat, Int.toNat_zero, Int.toNat_natCast]
        exact hK _
      apply aops_merge' (by decide) (by exact want_of (d := 20) rfl (by simp (disch := first | omega | decide) only [go_sem, f0, f4, f5, f6, o4, opn_cond, cellsOf_ch, cellsOf_lsa, getD_get, Int.reduceToNat, Int.toNat_zero, Int.toNat_natCast]; rfl))
      · intro hc K hK
        have hc2 := hc
        simp only [beq_iff_eq, decide_eq_true_eq, decide_eq_false_iff_not, Bool.or_eq_true, Bool.and_eq_true, Bool.or_eq_false_iff, Bool.and_eq_false_iff] at hc2
        simp (disch := first | omega | decide) only [go_sem, f0, f4, f5, f6, o4, opn_cond, hc, if_true, cellsOf_ch, cellsOf_lsa, getD_get, Int.reduceToNat, Int.toNat_zero, Int.toNat_natCast]
        exact hK _
      iterate 1 (apply aops_step (by decide) rfl; · (intro K hK; simp (disch := first | omega | decide) only [go_sem, f0, f4, f5, f6, o4, cellsOf_ch, cellsOf_lsa, getD_get, Int.reduceToNat, Int.toNat_zero, Int.toNat_natCast]; exact hK _))
      refine aops_nil ?_
      apply AW.cond
      · simp (disch := first | omega | decide) only [go_sem, f0, f4, f5, f6, o4, cellsOf_ch, cellsOf_lsa, getD_get, Int.reduceToNat, Int.toNat_zero, Int.toNat_natCast]; rfl
      case ht => intro hb; (simp only [Bool.and_eq_true, decide_eq_true_eq] at hb; omega)
      case hf =>
      intro hb
      have hbt23 := hb
      refine AW.exit ?_
      refine AW.seq ?_
      refine AW.seq ?_
      have xss := all_small mo2
      rcases all_way2 xs with ha | ha
      · skip
        have hap := ha
        have xss := all_small mo2
        refine AW.region (cfg := cfg) ?_
        iterate 1 (apply aops_step (by decide) rfl; · (intro K hK; simp (disch := first | omega | decide) only [go_sem, f0, f4, f5, f6, o4, ha, cellsOf_ch, cellsOf_lsa, getD_get, Int.reduceToNat, Int.toNat_zero, Int.toNat_natCast]; exact hK _))
        apply aops_step (by decide) rfl
        · intro K hK
          simp (disch := first | omega | decide) only [go_sem, f0, f4, f5, f6, o4, ha, act_call, List.map, cellsOf_ch, cellsOf_lsa, getD_get, Int.reduceToNat, Int.toNat_zero, Int.toNat_natCast]
          apply mwp_call_s rfl rfl rfl
          · intro Q hQ
            (simp (disch := first | omega | decide) only [go_sem, f0, f4, f5, f6, o4, ha, peekL, reifyL_nil, reifyL_cons, reify_v, cellsOf_ch, cellsOf_lsa, getD_get, Int.reduceToNat, Int.toNat_zero, Int.toNat_natCast]; ((((rw [peek_own (by simp (disch := first | omega | decide) only [go_sem, f0, f4, f5, f6, o4, ha, peekL, reifyL_nil, reifyL_cons, reify_v, cellsOf_ch, cellsOf_lsa, getD_get, Int.reduceToNat, Int.toNat_zero, Int.toNat_natCast]; rfl)]); (try rw [sub_full (by (simp only [List.length_map, List.length_replicate]; done))])); exact hQ)))
          · exact good_refAllC false xs (by omega) xss
          · simp [-List.map_take, -List.map_drop, -List.map_append, -List.map_replicate, -List.reduceReplicate, noPtrL, noPtr, noPtrL_bsl, noPtrL_map, sub]
          · rfl
          · exact hK _
        iterate 2 (apply aops_step (by decide) rfl; · (intro K hK; simp (disch := first | omega | decide) only [go_sem, f0, f4, f5, f6, o4, ha, cellsOf_ch, cellsOf_lsa, getD_get, Int.reduceToNat, Int.toNat_zero, Int.toNat_natCast]; exact hK _))
        apply aops_skip' (by decide) rfl
        apply aops_skip' (by decide) rfl
        apply aops_skip' (by decide) rfl
        apply aops_skip' (by decide) rfl
        apply aops_skip' (by decide) rfl
        iterate 1 (apply aops_step (by decide) rfl; · (intro K hK; simp (disch := first | omega | decide) only [go_sem, f0, f4, f5, f6, o4, ha, cellsOf_ch, cellsOf_lsa, getD_get, Int.reduceToNat, Int.toNat_zero, Int.toNat_natCast]; exact hK _))
        refine aops_nil ?_
        apply AW.cond
        · simp (disch := first | omega | decide) only [go_sem, f0, f4, f5, f6, o4, ha, cellsOf_ch, cellsOf_lsa, getD_get, Int.reduceToNat, Int.toNat_zero, Int.toNat_natCast]; rfl
        case hf => intro hb; simp at hb
        case ht =>
        intro hb
        have hbt57 := hb
        refine AW.seq ?_
        refine AW.region (cfg := cfg) ?_
        iterate 2 (apply aops_step (by decide) rfl; · (intro K hK; simp (disch := first | omega | decide) only [go_sem, f0, f4, f5, f6, o4, ha, sz65, cellsOf_ch, cellsOf_lsa, getD_get, Int.reduceToNat, Int.toNat_zero, Int.toNat_natCast]; exact hK _))
        refine aops_nil ?_
        refine AW.ret ?_
        refine ⟨.inr rfl, ?_⟩
        (have zz : rfGet l = none := rf_no3 mo0 (by rw [ha]; rfl))
        (have zq : rfGet l = none := zz; obtain ⟨e1, e2, e3⟩ := opt_no2 (get_ref l) zq; rw [e1, e2, e3]; refine leavesN ?_; refine leaves_mwp2 (rs := [.tmp 2, .tmp 3]) rfl ?_; simp (config := {failIfUnchanged := false}) [giveL, srcOne, rehome, freezeN, sub, upd, opn, aLoad, loadL, giveOne, reify, reifyL, readL, readOne, Mwp, M.bind, Mem.set, setAt, cellsL, hG, f0, f4, f5, f6, o4, ha]; done)
      · skip
        have hap := ha
        have pbl := putB_len mo2 (by omega)
        have xss := all_small mo2
        refine AW.region (cfg := cfg) ?_
        iterate 1 (apply aops_step (by decide) rfl; · (intro K hK; simp (disch := first | omega | decide) only [go_sem, f0, f4, f5, f6, o4, ha, cellsOf_ch, cellsOf_lsa, getD_get, Int.reduceToNat, Int.toNat_zero, Int.toNat_natCast]; exact hK _))
        apply aops_step (by decide) rfl
        · intro K hK
          simp (disch := first | omega | decide) only [go_sem, f0, f4, f5, f6, o4, ha, act_call, List.map, cellsOf_ch, cellsOf_lsa, getD_get, Int.reduceToNat, Int.toNat_zero, Int.toNat_natCast]
          apply mwp_call_s rfl rfl rfl
          · intro Q hQ
            (simp (disch := first | omega | decide) only [go_sem, f0, f4, f5, f6, o4, ha, peekL, reifyL_nil, reifyL_cons, reify_v, cellsOf_ch, cellsOf_lsa, getD_get, Int.reduceToNat, Int.toNat_zero, Int.toNat_natCast]; ((((rw [peek_own (by simp (disch := first | omega | decide) only [go_sem, f0, f4, f5, f6, o4, ha, peekL, reifyL_nil, reifyL_cons, reify_v, cellsOf_ch, cellsOf_lsa, getD_get, Int.reduceToNat, Int.toNat_zero, Int.toNat_natCast]; rfl)]); (try rw [sub_full (by (simp only [List.length_map, List.length_replicate]; done))])); exact hQ)))
          · exact good_refAllC false xs (by omega) xss
          · simp [-List.map_take, -List.map_drop, -List.map_append, -List.map_replicate, -List.reduceReplicate, noPtrL, noPtr, noPtrL_bsl, noPtrL_map, sub]
          · rfl
          · exact hK _
        iterate 3 (apply aops_step (by decide) rfl; · (intro K hK; simp (disch := first | omega | decide) only [go_sem, f0, f4, f5, f6, o4, ha, cellsOf_ch, cellsOf_lsa, getD_get, Int.reduceToNat, Int.toNat_zero, Int.toNat_natCast]; exact hK _))
        apply aops_step (by decide) rfl
        · intro K hK
          simp (disch := first | omega | decide) only [go_sem, f0, f4, f5, f6, o4, ha, act_call, List.map, cellsOf_ch, cellsOf_lsa, getD_get, Int.reduceToNat, Int.toNat_zero, Int.toNat_natCast]
          apply mwp_call_r rfl rfl rfl
          · intro Q hQ
            (simp (disch := first | omega | decide) only [go_sem, f0, f4, f5, f6, o4, ha, peekL, reifyL_nil, reifyL_cons, reify_v, cellsOf_ch, cellsOf_lsa, getD_get, Int.reduceToNat, Int.toNat_zero, Int.toNat_natCast]; ((((rw [mwp_reify_own (by simp (disch := first | omega | decide) only [go_sem, f0, f4, f5, f6, o4, ha, peekL, reifyL_nil, reifyL_cons, reify_v, cellsOf_ch, cellsOf_lsa, getD_get, Int.reduceToNat, Int.toNat_zero, Int.toNat_natCast]; rfl)]); (try rw [sub_full (by (simp only [List.length_map, List.length_replicate]; done))])); exact hQ)))
          · exact good_refPutC false xs (by omega) xss mo2 (by omega)
          · simp [-List.map_take, -List.map_drop, -List.map_append, -List.map_replicate, -List.reduceReplicate, noPtrL, noPtr, noPtrL_bsl, noPtrL_map, sub]
          · simp (disch := first | omega | decide) only [go_sem, f0, f4, f5, f6, o4, ha, cellsOf_ch, cellsOf_lsa, getD_get, Int.reduceToNat, Int.toNat_zero, Int.toNat_natCast]
            exact hK _
        iterate 1 (apply aops_step (by decide) rfl; · (intro K hK; simp (disch := first | omega | decide) only [go_sem, f0, f4, f5, f6, o4, ha, cellsOf_ch, cellsOf_lsa, getD_get, Int.reduceToNat, Int.toNat_zero, Int.toNat_natCast]; exact hK _))
        apply aops_step (by decide) rfl
        · intro K hK
          simp (disch := first | omega | decide) only [go_sem, f0, f4, f5, f6, o4, ha, act_call, List.map, cellsOf_ch, cellsOf_lsa, getD_get, Int.reduceToNat, Int.toNat_zero, Int.toNat_natCast]
          apply mwp_call_s rfl rfl rfl
          · intro Q hQ
            (simp (disch := first | omega | decide) only [go_sem, f0, f4, f5, f6, o4, ha, peekL, reifyL_nil, reifyL_cons, reify_v, cellsOf_ch, cellsOf_lsa, getD_get, Int.reduceToNat, Int.toNat_zero, Int.toNat_natCast]; (exact hQ))
          · exact O.good_Same false nil (putB xs) l (by omega) (by omega)
          · simp [-List.map_take, -List.map_drop, -List.map_append, -List.map_replicate, -List.reduceReplicate, noPtrL, noPtr, noPtrL_bsl, noPtrL_map, sub]
          · rfl
          · exact hK _
        iterate 2 (apply aops_step (by decide) rfl; · (intro K hK; simp (disch := first | omega | decide) only [go_sem, f0, f4, f5, f6, o4, ha, cellsOf_ch, cellsOf_lsa, getD_get, Int.reduceToNat, Int.toNat_zero, Int.toNat_natCast]; exact hK _))
        refine aops_nil ?_
        apply AW.cond
        · simp (disch := first | omega | decide) only [go_sem, f0, f4, f5, f6, o4, ha, cellsOf_ch, cellsOf_lsa, getD_get, Int.reduceToNat, Int.toNat_zero, Int.toNat_natCast]; rfl
        case ht =>
          intro hb
          try simp only [Bool.or_eq_true, Bool.and_eq_true, Bool.or_eq_false_iff, Bool.and_eq_false_iff, decide_eq_true_eq, decide_eq_false_iff_not] at hb
          have hbt57 := hb
          refine AW.seq ?_
          refine AW.region (cfg := cfg) ?_
          iterate 2 (apply aops_step (by decide) rfl; · (intro K hK; simp (disch := first | omega | decide) only [go_sem, f0, f4, f5, f6, o4, ha, sz65, cellsOf_ch, cellsOf_lsa, getD_get, Int.reduceToNat, Int.toNat_zero, Int.toNat_natCast]; exact hK _))
          refine aops_nil ?_
          refine AW.ret ?_
          refine ⟨.inr rfl, ?_⟩
          (have zz : rfGet l = none := rf_no3 mo0 (by rw [ha]; exact bnot_t hbt57))
          (have zq : rfGet l = none := zz; obtain ⟨e1, e2, e3⟩ := opt_no2 (get_ref l) zq; rw [e1, e2, e3]; refine leavesN ?_; refine leaves_mwp2 (rs := [.tmp 2, .tmp 3]) rfl ?_; simp (config := {failIfUnchanged := false}) [giveL, srcOne, rehome, freezeN, sub, upd, opn, aLoad, loadL, giveOne, reify, reifyL, readL, readOne, Mwp, M.bind, Mem.set, setAt, cellsL, hG, f0, f4, f5, f6, o4, ha]; done)
        case hf =>
          intro hb
          try simp only [Bool.or_eq_true, Bool.and_eq_true, Bool.or_eq_false_iff, Bool.and_eq_false_iff, decide_eq_true_eq, decide_eq_false_iff_not] at hb
          have hbt57 := hb
          refine AW.skip ?_
          refine AW.seq ?_
          refine AW.region (cfg := cfg) ?_
          iterate 1 (apply aops_step (by decide) rfl; · (intro K hK; simp (disch := first | omega | decide) only [go_sem, f0, f4, f5, f6, o4, ha, cellsOf_ch, cellsOf_lsa, getD_get, Int.reduceToNat, Int.toNat_zero, Int.toNat_natCast]; exact hK _))
          apply aops_step (by decide) rfl
          · intro K hK
            simp (disch := first | omega | decide) only [go_sem, f0, f4, f5, f6, o4, ha, cellsOf_ch, cellsOf_lsa, getD_get, Int.reduceToNat, Int.toNat_zero, Int.toNat_natCast]
            rw [asg_ff (by rfl) (by decide) (by simp (disch := first | omega | decide) only [go_sem, f0, f4, f5, f6, o4, ha, cellsOf_ch, cellsOf_lsa, getD_get, Int.reduceToNat, Int.toNat_zero, Int.toNat_natCast]; rfl)]
            exact hK _
          iterate 1 (apply aops_step (by decide) rfl; · (intro K hK; simp (disch := first | omega | decide) only [go_sem, f0, f4, f5, f6, o4, ha, cellsOf_ch, cellsOf_lsa, getD_get, Int.reduceToNat, Int.toNat_zero, Int.toNat_natCast]; exact hK _))
          refine aops_nil ?_
          refine AW.ret ?_
          refine ⟨.inr rfl, ?_⟩
          (have zz : rfGet l = some xs := rf_yes hbt10 mo0 (by rw [ha]; exact bnot_f hbt57))
          (obtain ⟨e1, e2, e3⟩ := opt_yes2 (get_ref l) zz; rw [e1, e2, e3]; refine leavesN ?_; refine leaves_mwp2 (rs := [.tmp 2, .tmp 3]) rfl ?_; simp (config := {failIfUnchanged := false}) [giveL, srcOne, rehome, freezeN, sub, upd, opn, aLoad, loadL, giveOne, reify, reifyL, readL, readOne, Mwp, M.bind, Mem.set, setAt, cellsL, hG, f0, f4, f5, f6, o4, ha]; exact List.take_of_length_le (by simp))

end Go.Vai.C
