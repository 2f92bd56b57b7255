import Derived.Test.YtompjoadhhjddaabCh6
namespace Go.Vai.C
open Go.Proofs Go.Vai Go.Vai.G Go.Vai.L Go.Vai.O
set_option linter.unusedSimpArgs false
set_option linter.unusedVariables false

theorem rV_range1 {l : List (BitVec 8)} {a : Nat} (h : a ≤ l.length) (w : Bool) : 0 ≤ rV l a w 1 ∧ rV l a w 1 < 256 := by
  obtain ⟨f1, _, _⟩ := num_ok h w 1
  rw [← f1]; exact rnV_range1 _ _
theorem gs_e {b : List (BitVec 8)} (h : (b.length : Int) = 0) : gsC b = ⟨0, lsa0, 0, 0⟩ := by
  have : b = [] := List.eq_nil_of_length_eq_zero (by omega)
  subst this; rfl
theorem gs_ne {b : List (BitVec 8)} (h : ¬ (b.length : Int) = 0) : b.isEmpty = false := by cases b with
  | nil => exact absurd rfl h
  | cons x t => rfl
theorem gs_1 {b : List (BitVec 8)} (h0 : ¬ (b.length : Int) = 0) (h : at1 b 0 = 1) : gsC b = ⟨at1 b 0, rfL (b.drop 1), 0, 0⟩ := by
  simp only [gsC, gs_ne h0, h, if_true, Bool.false_eq_true, if_false]
theorem gs_2 {b : List (BitVec 8)} (h0 : ¬ (b.length : Int) = 0) (h : at1 b 0 = 2) : gsC b = ⟨at1 b 0, lsa0, IntKind.i64.wrap (rV b 1 false 8), 0⟩ := by
  simp only [gsC, gs_ne h0, h, show ¬ ((2 : Int) = 1) by decide, if_true, Bool.false_eq_true, if_false]
theorem gs_3 {b : List (BitVec 8)} (h0 : ¬ (b.length : Int) = 0) (h : at1 b 0 = 3) : gsC b = ⟨at1 b 0, lsa0, rV b 1 false 4, 0⟩ := by
  simp only [gsC, gs_ne h0, h, show ¬ ((3 : Int) = 1) by decide, show ¬ ((3 : Int) = 2) by decide, if_true, Bool.false_eq_true, if_false]
theorem gs_4 {b : List (BitVec 8)} (h0 : ¬ (b.length : Int) = 0) (h : at1 b 0 = 4) : gsC b = ⟨at1 b 0, lsa0, rV b (rA b 1 false 1) (rBad b 1 false 1) 4, rV b 1 false 1⟩ := by
  simp only [gsC, gs_ne h0, h, show ¬ ((4 : Int) = 1) by decide, show ¬ ((4 : Int) = 2) by decide, show ¬ ((4 : Int) = 3) by decide, if_true, Bool.false_eq_true, if_false]
theorem gs_0 {b : List (BitVec 8)} (h0 : ¬ (b.length : Int) = 0) (h1 : ¬ at1 b 0 = 1) (h2 : ¬ at1 b 0 = 2) (h3 : ¬ at1 b 0 = 3) (h4 : ¬ at1 b 0 = 4) : gsC b = ⟨at1 b 0, lsa0, 0, 0⟩ := by
  simp only [gsC, gs_ne h0, if_neg h1, if_neg h2, if_neg h3, if_neg h4, Bool.false_eq_true, if_false]
theorem ptail (l : List (BitVec 8)) : noPtrL (List.map u8 l).tail = true := by
  rw [← List.drop_one, ← List.map_drop]; exact noPtrL_bsl _
theorem gs_small (b : List (BitVec 8)) : (gsC b).l.ls.length ≤ 255 := by
  unfold gsC
  split
  · simp [lsa0]
  · split
    · exact rfL_len _
    · split
      · simp [lsa0]
      · split
        · simp [lsa0]
        · split <;> simp [lsa0]
set_option maxHeartbeats 4000000 in
set_option maxRecDepth 100000 in
theorem good_guessC (nil : Bool) (l : List (BitVec 8)) (hl : l.length ≤ 140737488355000) : Good Try.prog 79 [(.sl 1 nil (bsl l), false)] [] [(chA (gsC l), false)] [] := by
  refine good_of_body2 77 Try.func79 rfl rfl rfl (by simp) ?_
  intro s m ha hr hv hG
  have f0 : s 0 = .v (.sl 1 nil (bsl l)) := ha 0 _ rfl
  clear ha
  have v0 := (l.getD 0 default).isLt
  refine AW.seq ?_
  refine AW.region (cfg := cfg) ?_
  apply aops_step (by decide) rfl
  · intro K hK
    simp (disch := first | omega | decide) only [go_sem, f0, act_alloc_t ti74, List.map, cellsOf_ch, cellsOf_lsa, getD_get, Int.reduceToNat, Int.toNat_zero]
    exact hK _
  refine aops_nil ?_
  refine AW.seq ?_
  refine AW.seq ?_
  refine AW.region (cfg := cfg) ?_
  iterate 3 (apply aops_step (by decide) rfl; · (intro K hK; simp (disch := first | omega | decide) only [go_sem, f0, List.map, List.length_map, aops_len u25, cellsOf_ch, cellsOf_lsa, getD_get, Int.reduceToNat, Int.toNat_zero]; exact hK _))
  refine aops_nil ?_
  apply AW.cond
  · simp (disch := first | omega | decide) only [go_sem, f0, cellsOf_ch, cellsOf_lsa, getD_get, Int.reduceToNat, Int.toNat_zero]; rfl
  case ht =>
    intro hb
    try simp only [Bool.or_eq_true, Bool.and_eq_true, Bool.or_eq_false_iff, Bool.and_eq_false_iff, decide_eq_true_eq, decide_eq_false_iff_not] at hb
    have hbt17 := hb
    refine AW.seq ?_
    refine AW.region (cfg := cfg) ?_
    apply aops_step (by decide) rfl
    · intro K hK
      simp (disch := first | omega | decide) only [go_sem, f0, act_build_t ti74 pl74, List.map, cellsOf_ch, cellsOf_lsa, getD_get, Int.reduceToNat, Int.toNat_zero]
      simp [-List.map_take, -List.map_drop, fillL, okOne, cellishAV, Value.oneCell', cellsL, cellsOf, setAt, M.bind, Mwp, mset_same, Obj.isArr]
      exact hK _
    apply aops_step0 rfl
    · intro K hK
      simp (disch := first | omega | decide) only [go_sem, f0, act_store_t ti74, List.map, cellsOf_ch, cellsOf_lsa, getD_get, Int.reduceToNat, Int.toNat_zero]
      rw [mwp_store_c (by simp (disch := first | omega | decide) only [go_sem, f0, cellsOf_ch, cellsOf_lsa, getD_get, Int.reduceToNat, Int.toNat_zero]; rfl) (by rfl) (by rfl) (by rfl) (by simp)]
      try simp only [setAt, cellsL, cellsOf_agg, cellsOf_base, List.map_cons, List.map_nil, List.set_cons_zero, List.set_cons_succ, Nat.reduceAdd, Nat.zero_add, hG]
      exact hK _
    refine aops_nil ?_
    refine AW.ret ?_
    refine ⟨.inr rfl, ?_⟩
    refine leaves_mwp2 (rs := [.cell 2 74]) rfl ?_
    simp (config := {failIfUnchanged := false}) [giveL, srcOne, rehome, freezeN, sub, ti74, upd, opn, aLoad, loadL, giveOne, reify, reifyL, readL, readOne, Mwp, M.bind, Mem.set, setAt, cellsL, hG, f0]
    all_goals (rw [gs_e hbt17]; rfl)
  case hf =>
    intro hb
    try simp only [Bool.or_eq_true, Bool.and_eq_true, Bool.or_eq_false_iff, Bool.and_eq_false_iff, decide_eq_true_eq, decide_eq_false_iff_not] at hb
    have hbt17 := hb
    refine AW.skip ?_
    refine AW.seq ?_
    refine AW.region (cfg := cfg) ?_
    iterate 1 (apply aops_step (by decide) rfl; · (intro K hK; simp (disch := first | omega | decide) only [go_sem, f0, cellsOf_ch, cellsOf_lsa, getD_get, Int.reduceToNat, Int.toNat_zero]; exact hK _))
    apply aops_step (by decide) rfl
    · intro K hK
      simp (disch := first | omega | decide) only [go_sem, f0, act_indexAddr_s u25 ti5, List.map, cellsOf_ch, cellsOf_lsa, getD_get, Int.reduceToNat, Int.toNat_zero]
      skip
      exact hK _
    apply aops_step (by decide) rfl
    · intro K hK
      simp (disch := first | omega | decide) only [go_sem, f0, act_load_t ti5, List.map, cellsOf_ch, cellsOf_lsa, getD_get, Int.reduceToNat, Int.toNat_zero]
      skip
      exact hK _
    iterate 1 (apply aops_step (by decide) rfl; · (intro K hK; simp (disch := first | omega | decide) only [go_sem, f0, act_convI u5 u3, cellsOf_ch, cellsOf_lsa, getD_get, Int.reduceToNat, Int.toNat_zero]; exact hK _))
    apply aops_step (by decide) rfl
    · intro K hK
      simp (disch := first | omega | decide) only [go_sem, f0, act_build_t ti74 pl74, List.map, cellsOf_ch, cellsOf_lsa, getD_get, Int.reduceToNat, Int.toNat_zero]
      simp [-List.map_take, -List.map_drop, fillL, okOne, cellishAV, Value.oneCell', cellsL, cellsOf, setAt, M.bind, Mwp, mset_same, Obj.isArr]
      exact hK _
    apply aops_step (by decide) rfl
    · intro K hK
      simp (disch := first | omega | decide) only [go_sem, f0, act_alloc_t ti74, List.map, cellsOf_ch, cellsOf_lsa, getD_get, Int.reduceToNat, Int.toNat_zero]
      exact hK _
    apply aops_step0 rfl
    · intro K hK
      simp (disch := first | omega | decide) only [go_sem, f0, act_store_t ti74, List.map, cellsOf_ch, cellsOf_lsa, getD_get, Int.reduceToNat, Int.toNat_zero]
      rw [mwp_store_c (by simp (disch := first | omega | decide) only [go_sem, f0, cellsOf_ch, cellsOf_lsa, getD_get, Int.reduceToNat, Int.toNat_zero]; rfl) (by rfl) (by rfl) (by rfl) (by simp)]
      try simp only [setAt, cellsL, cellsOf_agg, cellsOf_base, List.map_cons, List.map_nil, List.set_cons_zero, List.set_cons_succ, Nat.reduceAdd, Nat.zero_add, hG]
      exact hK _
    refine aops_nil ?_
    refine AW.seq ?_
    refine AW.region (cfg := cfg) ?_
    iterate 1 (apply aops_step (by decide) rfl; · (intro K hK; simp (disch := first | omega | decide) only [go_sem, f0, cellsOf_ch, cellsOf_lsa, getD_get, Int.reduceToNat, Int.toNat_zero]; exact hK _))
    apply aops_step (by decide) rfl
    · intro K hK
      simp (disch := first | omega | decide) only [go_sem, f0, act_build_t ti104 pl104, List.map, cellsOf_ch, cellsOf_lsa, getD_get, Int.reduceToNat, Int.toNat_zero]
      simp [-List.map_take, -List.map_drop, fillL, okOne, cellishAV, Value.oneCell', cellsL, cellsOf, setAt, M.bind, Mwp, mset_same, Obj.isArr]
      exact hK _
    apply aops_step (by decide) rfl
    · intro K hK
      simp (disch := first | omega | decide) only [go_sem, f0, act_alloc_t ti104, List.map, cellsOf_ch, cellsOf_lsa, getD_get, Int.reduceToNat, Int.toNat_zero]
      exact hK _
    apply aops_step0 rfl
    · intro K hK
      simp (disch := first | omega | decide) only [go_sem, f0, act_store_t ti104, List.map, cellsOf_ch, cellsOf_lsa, getD_get, Int.reduceToNat, Int.toNat_zero]
      rw [mwp_store_c (by simp (disch := first | omega | decide) only [go_sem, f0, cellsOf_ch, cellsOf_lsa, getD_get, Int.reduceToNat, Int.toNat_zero]; rfl) (by rfl) (by rfl) (by rfl) (by simp)]
      try simp only [setAt, cellsL, cellsOf_agg, cellsOf_base, List.map_cons, List.map_nil, List.set_cons_zero, List.set_cons_succ, Nat.reduceAdd, Nat.zero_add, hG]
      exact hK _
    refine aops_nil ?_
    refine AW.seq ?_
    refine AW.seq ?_
    refine AW.region (cfg := cfg) ?_
    apply aops_step (by decide) rfl
    · intro K hK
      simp (disch := first | omega | decide) only [go_sem, f0, act_fieldAddr_t fo74_0, List.map, cellsOf_ch, cellsOf_lsa, getD_get, Int.reduceToNat, Int.toNat_zero]
      rw [mwp_fieldAddr_b (by simp (disch := first | omega | decide) only [go_sem, f0, cellsOf_ch, cellsOf_lsa, getD_get, Int.reduceToNat, Int.toNat_zero]; rfl)]
      exact hK _
    apply aops_step (by decide) rfl
    · intro K hK
      simp (disch := first | omega | decide) only [go_sem, f0, act_load_t ti3, List.map, cellsOf_ch, cellsOf_lsa, getD_get, Int.reduceToNat, Int.toNat_zero]
      rw [mwp_load_b1 (by simp (disch := first | omega | decide) only [go_sem, f0, cellsOf_ch, cellsOf_lsa, getD_get, Int.reduceToNat, Int.toNat_zero]; rfl) (by rfl)]
      exact hK _
    refine aops_nil ?_
    refine AW.block ?_
    refine AW.seq ?_
    refine AW.region (cfg := cfg) ?_
    iterate 2 (apply aops_step (by decide) rfl; · (intro K hK; simp (disch := first | omega | decide) only [go_sem, f0, cellsOf_ch, cellsOf_lsa, getD_get, Int.reduceToNat, Int.toNat_zero]; exact hK _))
    refine aops_nil ?_
    apply AW.cond
    · simp (disch := first | omega | decide) only [go_sem, f0, cellsOf_ch, cellsOf_lsa, getD_get, Int.reduceToNat, Int.toNat_zero]; rfl
    case ht =>
      intro hb
      try simp only [Bool.or_eq_true, Bool.and_eq_true, Bool.or_eq_false_iff, Bool.and_eq_false_iff, decide_eq_true_eq, decide_eq_false_iff_not] at hb
      have hbt28 := hb
      refine AW.seq ?_
      refine AW.region (cfg := cfg) ?_
      iterate 2 (apply aops_step (by decide) rfl; · (intro K hK; simp (disch := first | omega | decide) only [go_sem, f0, act_slice_s u25 ti5, cellsOf_ch, cellsOf_lsa, getD_get, Int.reduceToNat, Int.toNat_zero]; exact hK _))
      apply aops_step (by decide) rfl
      · intro K hK
        simp (disch := first | omega | decide) only [go_sem, f0, act_call, List.map, cellsOf_ch, cellsOf_lsa, getD_get, Int.reduceToNat, Int.toNat_zero]
        apply mwp_call_r rfl rfl rfl
        · intro Q hQ
          (simp (disch := first | omega | decide) only [go_sem, f0, peekL, reifyL_nil, reifyL_cons, reify_v, cellsOf_ch, cellsOf_lsa, getD_get, Int.reduceToNat, Int.toNat_zero]; (exact hQ))
        · exact L.good_refRead nil (l.drop 1) (by simp; omega)
        · simp [-List.map_take, -List.map_drop, -List.map_append, -List.map_replicate, -List.reduceReplicate, noPtrL, noPtr, noPtrL_bsl, noPtrL_map, ptail, sub]
        · simp (disch := first | omega | decide) only [go_sem, f0, cellsOf_ch, cellsOf_lsa, getD_get, Int.reduceToNat, Int.toNat_zero]
          exact hK _
      iterate 3 (apply aops_step (by decide) rfl; · (intro K hK; simp (disch := first | omega | decide) only [go_sem, f0, cellsOf_ch, cellsOf_lsa, getD_get, Int.reduceToNat, Int.toNat_zero]; exact hK _))
      apply aops_step (by decide) rfl
      · intro K hK
        simp (disch := first | omega | decide) only [go_sem, f0, act_alloc_t ti24, List.map, cellsOf_ch, cellsOf_lsa, getD_get, Int.reduceToNat, Int.toNat_zero]
        exact hK _
      apply aops_step0 rfl
      · intro K hK
        simp (disch := first | omega | decide) only [go_sem, f0, act_store_t ti24, List.map, cellsOf_ch, cellsOf_lsa, getD_get, Int.reduceToNat, Int.toNat_zero]
        rw [mwp_store_c (by simp (disch := first | omega | decide) only [go_sem, f0, cellsOf_ch, cellsOf_lsa, getD_get, Int.reduceToNat, Int.toNat_zero]; rfl) (by rfl) (by rfl) (by rfl) (by simp)]
        try simp only [setAt, cellsL, cellsOf_agg, cellsOf_base, List.map_cons, List.map_nil, List.set_cons_zero, List.set_cons_succ, Nat.reduceAdd, Nat.zero_add, hG]
        exact hK _
      iterate 1 (apply aops_step (by decide) rfl; · (intro K hK; simp (disch := first | omega | decide) only [go_sem, f0, cellsOf_ch, cellsOf_lsa, getD_get, Int.reduceToNat, Int.toNat_zero]; exact hK _))
      refine aops_nil ?_
      refine AW.region (cfg := cfg) ?_
      apply aops_step (by decide) rfl
      · intro K hK
        simp (disch := first | omega | decide) only [go_sem, f0, act_load_t ti24, List.map, cellsOf_ch, cellsOf_lsa, getD_get, Int.reduceToNat, Int.toNat_zero]
        rw [mwp_load_bs (by simp (disch := first | omega | decide) only [go_sem, f0, cellsOf_ch, cellsOf_lsa, getD_get, Int.reduceToNat, Int.toNat_zero]; rfl) (by simp [setAt])]
        exact hK _
      apply aops_step (by decide) rfl
      · intro K hK
        simp (disch := first | omega | decide) only [go_sem, f0, act_fieldAddr_t fo74_1, List.map, cellsOf_ch, cellsOf_lsa, getD_get, Int.reduceToNat, Int.toNat_zero]
        rw [mwp_fieldAddr_b (by simp (disch := first | omega | decide) only [go_sem, f0, cellsOf_ch, cellsOf_lsa, getD_get, Int.reduceToNat, Int.toNat_zero]; rfl)]
        exact hK _
      apply aops_step0 rfl
      · intro K hK
        simp (disch := first | omega | decide) only [go_sem, f0, act_store_t ti24, List.map, cellsOf_ch, cellsOf_lsa, getD_get, Int.reduceToNat, Int.toNat_zero]
        rw [mwp_store_c (by simp (disch := first | omega | decide) only [go_sem, f0, cellsOf_ch, cellsOf_lsa, getD_get, Int.reduceToNat, Int.toNat_zero]; rfl) (by rfl) (by rfl) (by rfl) (by simp)]
        try simp only [setAt, cellsL, cellsOf_agg, cellsOf_base, List.map_cons, List.map_nil, List.set_cons_zero, List.set_cons_succ, Nat.reduceAdd, Nat.zero_add, hG]
        exact hK _
      refine aops_nil ?_
      refine AW.seq ?_
      refine AW.region (cfg := cfg) ?_
      apply aops_step (by decide) rfl
      · intro K hK
        simp (disch := first | omega | decide) only [go_sem, f0, act_load_t ti74, List.map, cellsOf_ch, cellsOf_lsa, getD_get, Int.reduceToNat, Int.toNat_zero]
        rw [mwp_load_bs (by simp (disch := first | omega | decide) only [go_sem, f0, cellsOf_ch, cellsOf_lsa, getD_get, Int.reduceToNat, Int.toNat_zero]; rfl) (by simp [setAt])]
        exact hK _
      apply aops_step0 rfl
      · intro K hK
        simp (disch := first | omega | decide) only [go_sem, f0, act_store_t ti74, List.map, cellsOf_ch, cellsOf_lsa, getD_get, Int.reduceToNat, Int.toNat_zero]
        rw [mwp_store_c (by simp (disch := first | omega | decide) only [go_sem, f0, cellsOf_ch, cellsOf_lsa, getD_get, Int.reduceToNat, Int.toNat_zero]; rfl) (by rfl) (by rfl) (by rfl) (by simp)]
        try simp only [setAt, cellsL, cellsOf_agg, cellsOf_base, List.map_cons, List.map_nil, List.set_cons_zero, List.set_cons_succ, Nat.reduceAdd, Nat.zero_add, hG]
        exact hK _
      refine aops_nil ?_
      refine AW.ret ?_
      refine ⟨.inr rfl, ?_⟩
      refine leaves_mwp2 (rs := [.cell 2 74]) rfl ?_
      simp (config := {failIfUnchanged := false}) [giveL, srcOne, rehome, freezeN, sub, ti74, upd, opn, aLoad, loadL, giveOne, reify, reifyL, readL, readOne, Mwp, M.bind, Mem.set, setAt, cellsL, hG, f0]
      all_goals (rw [gs_1 hbt17 hbt28, List.drop_one]; rfl)
    case hf =>
      intro hb
      try simp only [Bool.or_eq_true, Bool.and_eq_true, Bool.or_eq_false_iff, Bool.and_eq_false_iff, decide_eq_true_eq, decide_eq_false_iff_not] at hb
      have hbt28 := hb
      refine AW.seq ?_
      refine AW.region (cfg := cfg) ?_
      iterate 2 (apply aops_step (by decide) rfl; · (intro K hK; simp (disch := first | omega | decide) only [go_sem, f0, cellsOf_ch, cellsOf_lsa, getD_get, Int.reduceToNat, Int.toNat_zero]; exact hK _))
      refine aops_nil ?_
      apply AW.cond
      · simp (disch := first | omega | decide) only [go_sem, f0, cellsOf_ch, cellsOf_lsa, getD_get, Int.reduceToNat, Int.toNat_zero]; rfl
      case ht =>
        intro hb
        try simp only [Bool.or_eq_true, Bool.and_eq_true, Bool.or_eq_false_iff, Bool.and_eq_false_iff, decide_eq_true_eq, decide_eq_false_iff_not] at hb
        have hbt38 := hb
        refine AW.seq ?_
        have v1 := rV_range4 l 1 false
        refine AW.region (cfg := cfg) ?_
        apply aops_step (by decide) rfl
        · intro K hK
          simp (disch := first | omega | decide) only [go_sem, f0, act_load_t ti104, List.map, cellsOf_ch, cellsOf_lsa, getD_get, Int.reduceToNat, Int.toNat_zero]
          rw [mwp_load_bs (by simp (disch := first | omega | decide) only [go_sem, f0, cellsOf_ch, cellsOf_lsa, getD_get, Int.reduceToNat, Int.toNat_zero]; rfl) (by simp [setAt])]
          exact hK _
        apply aops_step (by decide) rfl
        · intro K hK
          simp (disch := first | omega | decide) only [go_sem, f0, act_call, List.map, cellsOf_ch, cellsOf_lsa, getD_get, Int.reduceToNat, Int.toNat_zero]
          apply mwp_call_r rfl rfl rfl
          · intro Q hQ
            (simp (disch := first | omega | decide) only [go_sem, f0, peekL, reifyL_nil, reifyL_cons, reify_v, cellsOf_ch, cellsOf_lsa, getD_get, Int.reduceToNat, Int.toNat_zero]; (exact hQ))
          · exact O.good_refReadNum nil l 1 false (by omega) (by omega) 8
          · simp [-List.map_take, -List.map_drop, -List.map_append, -List.map_replicate, -List.reduceReplicate, noPtrL, noPtr, noPtrL_bsl, noPtrL_map, ptail, sub]
          · simp (disch := first | omega | decide) only [go_sem, f0, cellsOf_ch, cellsOf_lsa, getD_get, Int.reduceToNat, Int.toNat_zero]
            exact hK _
        iterate 3 (apply aops_step (by decide) rfl; · (intro K hK; simp (disch := first | omega | decide) only [go_sem, f0, cellsOf_ch, cellsOf_lsa, getD_get, Int.reduceToNat, Int.toNat_zero]; exact hK _))
        apply aops_step (by decide) rfl
        · intro K hK
          simp (disch := first | omega | decide) only [go_sem, f0, act_alloc_t ti104, List.map, cellsOf_ch, cellsOf_lsa, getD_get, Int.reduceToNat, Int.toNat_zero]
          exact hK _
        apply aops_step0 rfl
        · intro K hK
          simp (disch := first | omega | decide) only [go_sem, f0, act_store_t ti104, List.map, cellsOf_ch, cellsOf_lsa, getD_get, Int.reduceToNat, Int.toNat_zero]
          rw [mwp_store_c (by simp (disch := first | omega | decide) only [go_sem, f0, cellsOf_ch, cellsOf_lsa, getD_get, Int.reduceToNat, Int.toNat_zero]; rfl) (by rfl) (by rfl) (by rfl) (by simp)]
          try simp only [setAt, cellsL, cellsOf_agg, cellsOf_base, List.map_cons, List.map_nil, List.set_cons_zero, List.set_cons_succ, Nat.reduceAdd, Nat.zero_add, hG]
          exact hK _
        iterate 1 (apply aops_step (by decide) rfl; · (intro K hK; simp (disch := first | omega | decide) only [go_sem, f0, cellsOf_ch, cellsOf_lsa, getD_get, Int.reduceToNat, Int.toNat_zero]; exact hK _))
        refine aops_nil ?_
        refine AW.region (cfg := cfg) ?_
        iterate 2 (apply aops_step (by decide) rfl; · (intro K hK; simp (disch := first | omega | decide) only [go_sem, f0, act_convI u97 u3, cellsOf_ch, cellsOf_lsa, getD_get, Int.reduceToNat, Int.toNat_zero]; exact hK _))
        apply aops_step (by decide) rfl
        · intro K hK
          simp (disch := first | omega | decide) only [go_sem, f0, act_fieldAddr_t fo74_2, List.map, cellsOf_ch, cellsOf_lsa, getD_get, Int.reduceToNat, Int.toNat_zero]
          rw [mwp_fieldAddr_b (by simp (disch := first | omega | decide) only [go_sem, f0, cellsOf_ch, cellsOf_lsa, getD_get, Int.reduceToNat, Int.toNat_zero]; rfl)]
          exact hK _
        apply aops_step0 rfl
        · intro K hK
          simp (disch := first | omega | decide) only [go_sem, f0, act_store_t ti3, List.map, cellsOf_ch, cellsOf_lsa, getD_get, Int.reduceToNat, Int.toNat_zero]
          rw [mwp_store_c (by simp (disch := first | omega | decide) only [go_sem, f0, cellsOf_ch, cellsOf_lsa, getD_get, Int.reduceToNat, Int.toNat_zero]; rfl) (by rfl) (by rfl) (by rfl) (by simp)]
          try simp only [setAt, cellsL, cellsOf_agg, cellsOf_base, List.map_cons, List.map_nil, List.set_cons_zero, List.set_cons_succ, Nat.reduceAdd, Nat.zero_add, hG]
          exact hK _
        refine aops_nil ?_
        refine AW.seq ?_
        refine AW.region (cfg := cfg) ?_
        apply aops_step (by decide) rfl
        · intro K hK
          simp (disch := first | omega | decide) only [go_sem, f0, act_load_t ti74, List.map, cellsOf_ch, cellsOf_lsa, getD_get, Int.reduceToNat, Int.toNat_zero]
          rw [mwp_load_bs (by simp (disch := first | omega | decide) only [go_sem, f0, cellsOf_ch, cellsOf_lsa, getD_get, Int.reduceToNat, Int.toNat_zero]; rfl) (by simp [setAt])]
          exact hK _
        apply aops_step0 rfl
        · intro K hK
          simp (disch := first | omega | decide) only [go_sem, f0, act_store_t ti74, List.map, cellsOf_ch, cellsOf_lsa, getD_get, Int.reduceToNat, Int.toNat_zero]
          rw [mwp_store_c (by simp (disch := first | omega | decide) only [go_sem, f0, cellsOf_ch, cellsOf_lsa, getD_get, Int.reduceToNat, Int.toNat_zero]; rfl) (by rfl) (by rfl) (by rfl) (by simp)]
          try simp only [setAt, cellsL, cellsOf_agg, cellsOf_base, List.map_cons, List.map_nil, List.set_cons_zero, List.set_cons_succ, Nat.reduceAdd, Nat.zero_add, hG]
          exact hK _
        refine aops_nil ?_
        refine AW.ret ?_
        refine ⟨.inr rfl, ?_⟩
        refine leaves_mwp2 (rs := [.cell 2 74]) rfl ?_
        simp (config := {failIfUnchanged := false}) [giveL, srcOne, rehome, freezeN, sub, ti74, upd, opn, aLoad, loadL, giveOne, reify, reifyL, readL, readOne, Mwp, M.bind, Mem.set, setAt, cellsL, hG, f0]
        all_goals (rw [gs_2 hbt17 hbt38]; rfl)
      case hf =>
        intro hb
        try simp only [Bool.or_eq_true, Bool.and_eq_true, Bool.or_eq_false_iff, Bool.and_eq_false_iff, decide_eq_true_eq, decide_eq_false_iff_not] at hb
        have hbt38 := hb
        refine AW.seq ?_
        refine AW.region (cfg := cfg) ?_
        iterate 2 (apply aops_step (by decide) rfl; · (intro K hK; simp (disch := first | omega | decide) only [go_sem, f0, cellsOf_ch, cellsOf_lsa, getD_get, Int.reduceToNat, Int.toNat_zero]; exact hK _))
        refine aops_nil ?_
        apply AW.cond
        · simp (disch := first | omega | decide) only [go_sem, f0, cellsOf_ch, cellsOf_lsa, getD_get, Int.reduceToNat, Int.toNat_zero]; rfl
        case ht =>
          intro hb
          try simp only [Bool.or_eq_true, Bool.and_eq_true, Bool.or_eq_false_iff, Bool.and_eq_false_iff, decide_eq_true_eq, decide_eq_false_iff_not] at hb
          have hbt48 := hb
          refine AW.seq ?_
          have v1 := rV_range4 l 1 false
          refine AW.region (cfg := cfg) ?_
          apply aops_step (by decide) rfl
          · intro K hK
            simp (disch := first | omega | decide) only [go_sem, f0, act_load_t ti104, List.map, cellsOf_ch, cellsOf_lsa, getD_get, Int.reduceToNat, Int.toNat_zero]
            rw [mwp_load_bs (by simp (disch := first | omega | decide) only [go_sem, f0, cellsOf_ch, cellsOf_lsa, getD_get, Int.reduceToNat, Int.toNat_zero]; rfl) (by simp [setAt])]
            exact hK _
          apply aops_step (by decide) rfl
          · intro K hK
            simp (disch := first | omega | decide) only [go_sem, f0, act_call, List.map, cellsOf_ch, cellsOf_lsa, getD_get, Int.reduceToNat, Int.toNat_zero]
            apply mwp_call_r rfl rfl rfl
            · intro Q hQ
              (simp (disch := first | omega | decide) only [go_sem, f0, peekL, reifyL_nil, reifyL_cons, reify_v, cellsOf_ch, cellsOf_lsa, getD_get, Int.reduceToNat, Int.toNat_zero]; (exact hQ))
            · exact O.good_refReadNum nil l 1 false (by omega) (by omega) 4
            · simp [-List.map_take, -List.map_drop, -List.map_append, -List.map_replicate, -List.reduceReplicate, noPtrL, noPtr, noPtrL_bsl, noPtrL_map, ptail, sub]
            · simp (disch := first | omega | decide) only [go_sem, f0, cellsOf_ch, cellsOf_lsa, getD_get, Int.reduceToNat, Int.toNat_zero]
              exact hK _
          iterate 3 (apply aops_step (by decide) rfl; · (intro K hK; simp (disch := first | omega | decide) only [go_sem, f0, cellsOf_ch, cellsOf_lsa, getD_get, Int.reduceToNat, Int.toNat_zero]; exact hK _))
          apply aops_step (by decide) rfl
          · intro K hK
            simp (disch := first | omega | decide) only [go_sem, f0, act_alloc_t ti104, List.map, cellsOf_ch, cellsOf_lsa, getD_get, Int.reduceToNat, Int.toNat_zero]
            exact hK _
          apply aops_step0 rfl
          · intro K hK
            simp (disch := first | omega | decide) only [go_sem, f0, act_store_t ti104, List.map, cellsOf_ch, cellsOf_lsa, getD_get, Int.reduceToNat, Int.toNat_zero]
            rw [mwp_store_c (by simp (disch := first | omega | decide) only [go_sem, f0, cellsOf_ch, cellsOf_lsa, getD_get, Int.reduceToNat, Int.toNat_zero]; rfl) (by rfl) (by rfl) (by rfl) (by simp)]
            try simp only [setAt, cellsL, cellsOf_agg, cellsOf_base, List.map_cons, List.map_nil, List.set_cons_zero, List.set_cons_succ, Nat.reduceAdd, Nat.zero_add, hG]
            exact hK _
          iterate 1 (apply aops_step (by decide) rfl; · (intro K hK; simp (disch := first | omega | decide) only [go_sem, f0, cellsOf_ch, cellsOf_lsa, getD_get, Int.reduceToNat, Int.toNat_zero]; exact hK _))
          refine aops_nil ?_
          refine AW.region (cfg := cfg) ?_
          iterate 2 (apply aops_step (by decide) rfl; · (intro K hK; simp (disch := first | omega | decide) only [go_sem, f0, act_convI u97 u3, cellsOf_ch, cellsOf_lsa, getD_get, Int.reduceToNat, Int.toNat_zero]; exact hK _))
          apply aops_step (by decide) rfl
          · intro K hK
            simp (disch := first | omega | decide) only [go_sem, f0, act_fieldAddr_t fo74_2, List.map, cellsOf_ch, cellsOf_lsa, getD_get, Int.reduceToNat, Int.toNat_zero]
            rw [mwp_fieldAddr_b (by simp (disch := first | omega | decide) only [go_sem, f0, cellsOf_ch, cellsOf_lsa, getD_get, Int.reduceToNat, Int.toNat_zero]; rfl)]
            exact hK _
          apply aops_step0 rfl
          · intro K hK
            simp (disch := first | omega | decide) only [go_sem, f0, act_store_t ti3, List.map, cellsOf_ch, cellsOf_lsa, getD_get, Int.reduceToNat, Int.toNat_zero]
            rw [mwp_store_c (by simp (disch := first | omega | decide) only [go_sem, f0, cellsOf_ch, cellsOf_lsa, getD_get, Int.reduceToNat, Int.toNat_zero]; rfl) (by rfl) (by rfl) (by rfl) (by simp)]
            try simp only [setAt, cellsL, cellsOf_agg, cellsOf_base, List.map_cons, List.map_nil, List.set_cons_zero, List.set_cons_succ, Nat.reduceAdd, Nat.zero_add, hG]
            exact hK _
          refine aops_nil ?_
          refine AW.seq ?_
          refine AW.region (cfg := cfg) ?_
          apply aops_step (by decide) rfl
          · intro K hK
            simp (disch := first | omega | decide) only [go_sem, f0, act_load_t ti74, List.map, cellsOf_ch, cellsOf_lsa, getD_get, Int.reduceToNat, Int.toNat_zero]
            rw [mwp_load_bs (by simp (disch := first | omega | decide) only [go_sem, f0, cellsOf_ch, cellsOf_lsa, getD_get, Int.reduceToNat, Int.toNat_zero]; rfl) (by simp [setAt])]
            exact hK _
          apply aops_step0 rfl
          · intro K hK
            simp (disch := first | omega | decide) only [go_sem, f0, act_store_t ti74, List.map, cellsOf_ch, cellsOf_lsa, getD_get, Int.reduceToNat, Int.toNat_zero]
            rw [mwp_store_c (by simp (disch := first | omega | decide) only [go_sem, f0, cellsOf_ch, cellsOf_lsa, getD_get, Int.reduceToNat, Int.toNat_zero]; rfl) (by rfl) (by rfl) (by rfl) (by simp)]
            try simp only [setAt, cellsL, cellsOf_agg, cellsOf_base, List.map_cons, List.map_nil, List.set_cons_zero, List.set_cons_succ, Nat.reduceAdd, Nat.zero_add, hG]
            exact hK _
          refine aops_nil ?_
          refine AW.ret ?_
          refine ⟨.inr rfl, ?_⟩
          refine leaves_mwp2 (rs := [.cell 2 74]) rfl ?_
          simp (config := {failIfUnchanged := false}) [giveL, srcOne, rehome, freezeN, sub, ti74, upd, opn, aLoad, loadL, giveOne, reify, reifyL, readL, readOne, Mwp, M.bind, Mem.set, setAt, cellsL, hG, f0]
          all_goals (rw [gs_3 hbt17 hbt48]; rfl)
        case hf =>
          intro hb
          try simp only [Bool.or_eq_true, Bool.and_eq_true, Bool.or_eq_false_iff, Bool.and_eq_false_iff, decide_eq_true_eq, decide_eq_false_iff_not] at hb
          have hbt48 := hb
          refine AW.seq ?_
          refine AW.region (cfg := cfg) ?_
          iterate 2 (apply aops_step (by decide) rfl; · (intro K hK; simp (disch := first | omega | decide) only [go_sem, f0, cellsOf_ch, cellsOf_lsa, getD_get, Int.reduceToNat, Int.toNat_zero]; exact hK _))
          refine aops_nil ?_
          apply AW.cond
          · simp (disch := first | omega | decide) only [go_sem, f0, cellsOf_ch, cellsOf_lsa, getD_get, Int.reduceToNat, Int.toNat_zero]; rfl
          case ht =>
            intro hb
            try simp only [Bool.or_eq_true, Bool.and_eq_true, Bool.or_eq_false_iff, Bool.and_eq_false_iff, decide_eq_true_eq, decide_eq_false_iff_not] at hb
            have hbt58 := hb
            refine AW.seq ?_
            have v1 := rV_range1 (l := l) (a := 1) (by omega) false
            have v2 := rV_range4 l (rA l 1 false 1) (rBad l 1 false 1)
            have ra := rA_le (l := l) (at_ := 1) (by omega) false 1
            refine AW.region (cfg := cfg) ?_
            apply aops_step (by decide) rfl
            · intro K hK
              simp (disch := first | omega | decide) only [go_sem, f0, act_load_t ti104, List.map, cellsOf_ch, cellsOf_lsa, getD_get, Int.reduceToNat, Int.toNat_zero]
              rw [mwp_load_bs (by simp (disch := first | omega | decide) only [go_sem, f0, cellsOf_ch, cellsOf_lsa, getD_get, Int.reduceToNat, Int.toNat_zero]; rfl) (by simp [setAt])]
              exact hK _
            apply aops_step (by decide) rfl
            · intro K hK
              simp (disch := first | omega | decide) only [go_sem, f0, act_call, List.map, cellsOf_ch, cellsOf_lsa, getD_get, Int.reduceToNat, Int.toNat_zero]
              apply mwp_call_r rfl rfl rfl
              · intro Q hQ
                (simp (disch := first | omega | decide) only [go_sem, f0, peekL, reifyL_nil, reifyL_cons, reify_v, cellsOf_ch, cellsOf_lsa, getD_get, Int.reduceToNat, Int.toNat_zero]; (exact hQ))
              · exact O.good_refReadNum nil l 1 false (by omega) (by omega) 1
              · simp [-List.map_take, -List.map_drop, -List.map_append, -List.map_replicate, -List.reduceReplicate, noPtrL, noPtr, noPtrL_bsl, noPtrL_map, ptail, sub]
              · simp (disch := first | omega | decide) only [go_sem, f0, cellsOf_ch, cellsOf_lsa, getD_get, Int.reduceToNat, Int.toNat_zero]
                exact hK _
            iterate 3 (apply aops_step (by decide) rfl; · (intro K hK; simp (disch := first | omega | decide) only [go_sem, f0, cellsOf_ch, cellsOf_lsa, getD_get, Int.reduceToNat, Int.toNat_zero]; exact hK _))
            apply aops_step (by decide) rfl
            · intro K hK
              simp (disch := first | omega | decide) only [go_sem, f0, act_alloc_t ti104, List.map, cellsOf_ch, cellsOf_lsa, getD_get, Int.reduceToNat, Int.toNat_zero]
              exact hK _
            apply aops_step0 rfl
            · intro K hK
              simp (disch := first | omega | decide) only [go_sem, f0, act_store_t ti104, List.map, cellsOf_ch, cellsOf_lsa, getD_get, Int.reduceToNat, Int.toNat_zero]
              rw [mwp_store_c (by simp (disch := first | omega | decide) only [go_sem, f0, cellsOf_ch, cellsOf_lsa, getD_get, Int.reduceToNat, Int.toNat_zero]; rfl) (by rfl) (by rfl) (by rfl) (by simp)]
              try simp only [setAt, cellsL, cellsOf_agg, cellsOf_base, List.map_cons, List.map_nil, List.set_cons_zero, List.set_cons_succ, Nat.reduceAdd, Nat.zero_add, hG]
              exact hK _
            iterate 1 (apply aops_step (by decide) rfl; · (intro K hK; simp (disch := first | omega | decide) only [go_sem, f0, cellsOf_ch, cellsOf_lsa, getD_get, Int.reduceToNat, Int.toNat_zero]; exact hK _))
            refine aops_nil ?_
            refine AW.seq ?_
            refine AW.region (cfg := cfg) ?_
            apply aops_step (by decide) rfl
            · intro K hK
              simp (disch := first | omega | decide) only [go_sem, f0, act_load_t ti104, List.map, cellsOf_ch, cellsOf_lsa, getD_get, Int.reduceToNat, Int.toNat_zero]
              rw [mwp_load_bs (by simp (disch := first | omega | decide) only [go_sem, f0, cellsOf_ch, cellsOf_lsa, getD_get, Int.reduceToNat, Int.toNat_zero]; rfl) (by simp [setAt])]
              exact hK _
            apply aops_step (by decide) rfl
            · intro K hK
              simp (disch := first | omega | decide) only [go_sem, f0, act_call, List.map, cellsOf_ch, cellsOf_lsa, getD_get, Int.reduceToNat, Int.toNat_zero]
              apply mwp_call_r rfl rfl rfl
              · intro Q hQ
                (simp (disch := first | omega | decide) only [go_sem, f0, peekL, reifyL_nil, reifyL_cons, reify_v, cellsOf_ch, cellsOf_lsa, getD_get, Int.reduceToNat, Int.toNat_zero]; (exact hQ))
              · exact O.good_refReadNum nil l (rA l 1 false 1) (rBad l 1 false 1) (by omega) ra 4
              · simp [-List.map_take, -List.map_drop, -List.map_append, -List.map_replicate, -List.reduceReplicate, noPtrL, noPtr, noPtrL_bsl, noPtrL_map, ptail, sub]
              · simp (disch := first | omega | decide) only [go_sem, f0, cellsOf_ch, cellsOf_lsa, getD_get, Int.reduceToNat, Int.toNat_zero]
                exact hK _
            iterate 3 (apply aops_step (by decide) rfl; · (intro K hK; simp (disch := first | omega | decide) only [go_sem, f0, cellsOf_ch, cellsOf_lsa, getD_get, Int.reduceToNat, Int.toNat_zero]; exact hK _))
            apply aops_step (by decide) rfl
            · intro K hK
              simp (disch := first | omega | decide) only [go_sem, f0, act_alloc_t ti104, List.map, cellsOf_ch, cellsOf_lsa, getD_get, Int.reduceToNat, Int.toNat_zero]
              exact hK _
            apply aops_step0 rfl
            · intro K hK
              simp (disch := first | omega | decide) only [go_sem, f0, act_store_t ti104, List.map, cellsOf_ch, cellsOf_lsa, getD_get, Int.reduceToNat, Int.toNat_zero]
              rw [mwp_store_c (by simp (disch := first | omega | decide) only [go_sem, f0, cellsOf_ch, cellsOf_lsa, getD_get, Int.reduceToNat, Int.toNat_zero]; rfl) (by rfl) (by rfl) (by rfl) (by simp)]
              try simp only [setAt, cellsL, cellsOf_agg, cellsOf_base, List.map_cons, List.map_nil, List.set_cons_zero, List.set_cons_succ, Nat.reduceAdd, Nat.zero_add, hG]
              exact hK _
            iterate 1 (apply aops_step (by decide) rfl; · (intro K hK; simp (disch := first | omega | decide) only [go_sem, f0, cellsOf_ch, cellsOf_lsa, getD_get, Int.reduceToNat, Int.toNat_zero]; exact hK _))
            refine aops_nil ?_
            refine AW.seq ?_
            refine AW.region (cfg := cfg) ?_
            iterate 2 (apply aops_step (by decide) rfl; · (intro K hK; simp (disch := first | omega | decide) only [go_sem, f0, act_convI u97 u3, cellsOf_ch, cellsOf_lsa, getD_get, Int.reduceToNat, Int.toNat_zero]; exact hK _))
            apply aops_step (by decide) rfl
            · intro K hK
              simp (disch := first | omega | decide) only [go_sem, f0, act_fieldAddr_t fo74_3, List.map, cellsOf_ch, cellsOf_lsa, getD_get, Int.reduceToNat, Int.toNat_zero]
              rw [mwp_fieldAddr_b (by simp (disch := first | omega | decide) only [go_sem, f0, cellsOf_ch, cellsOf_lsa, getD_get, Int.reduceToNat, Int.toNat_zero]; rfl)]
              exact hK _
            apply aops_step0 rfl
            · intro K hK
              simp (disch := first | omega | decide) only [go_sem, f0, act_store_t ti3, List.map, cellsOf_ch, cellsOf_lsa, getD_get, Int.reduceToNat, Int.toNat_zero]
              rw [mwp_store_c (by simp (disch := first | omega | decide) only [go_sem, f0, cellsOf_ch, cellsOf_lsa, getD_get, Int.reduceToNat, Int.toNat_zero]; rfl) (by rfl) (by rfl) (by rfl) (by simp)]
              try simp only [setAt, cellsL, cellsOf_agg, cellsOf_base, List.map_cons, List.map_nil, List.set_cons_zero, List.set_cons_succ, Nat.reduceAdd, Nat.zero_add, hG]
              exact hK _
            refine aops_nil ?_
            refine AW.region (cfg := cfg) ?_
            iterate 2 (apply aops_step (by decide) rfl; · (intro K hK; simp (disch := first | omega | decide) only [go_sem, f0, act_convI u97 u3, cellsOf_ch, cellsOf_lsa, getD_get, Int.reduceToNat, Int.toNat_zero]; exact hK _))
            apply aops_step (by decide) rfl
            · intro K hK
              simp (disch := first | omega | decide) only [go_sem, f0, act_fieldAddr_t fo74_2, List.map, cellsOf_ch, cellsOf_lsa, getD_get, Int.reduceToNat, Int.toNat_zero]
              rw [mwp_fieldAddr_b (by simp (disch := first | omega | decide) only [go_sem, f0, cellsOf_ch, cellsOf_lsa, getD_get, Int.reduceToNat, Int.toNat_zero]; rfl)]
              exact hK _
            apply aops_step0 rfl
            · intro K hK
              simp (disch := first | omega | decide) only [go_sem, f0, act_store_t ti3, List.map, cellsOf_ch, cellsOf_lsa, getD_get, Int.reduceToNat, Int.toNat_zero]
              rw [mwp_store_c (by simp (disch := first | omega | decide) only [go_sem, f0, cellsOf_ch, cellsOf_lsa, getD_get, Int.reduceToNat, Int.toNat_zero]; rfl) (by rfl) (by rfl) (by rfl) (by simp)]
              try simp only [setAt, cellsL, cellsOf_agg, cellsOf_base, List.map_cons, List.map_nil, List.set_cons_zero, List.set_cons_succ, Nat.reduceAdd, Nat.zero_add, hG]
              exact hK _
            refine aops_nil ?_
            refine AW.seq ?_
            refine AW.region (cfg := cfg) ?_
            apply aops_step (by decide) rfl
            · intro K hK
              simp (disch := first | omega | decide) only [go_sem, f0, act_load_t ti74, List.map, cellsOf_ch, cellsOf_lsa, getD_get, Int.reduceToNat, Int.toNat_zero]
              rw [mwp_load_bs (by simp (disch := first | omega | decide) only [go_sem, f0, cellsOf_ch, cellsOf_lsa, getD_get, Int.reduceToNat, Int.toNat_zero]; rfl) (by simp [setAt])]
              exact hK _
            apply aops_step0 rfl
            · intro K hK
              simp (disch := first | omega | decide) only [go_sem, f0, act_store_t ti74, List.map, cellsOf_ch, cellsOf_lsa, getD_get, Int.reduceToNat, Int.toNat_zero]
              rw [mwp_store_c (by simp (disch := first | omega | decide) only [go_sem, f0, cellsOf_ch, cellsOf_lsa, getD_get, Int.reduceToNat, Int.toNat_zero]; rfl) (by rfl) (by rfl) (by rfl) (by simp)]
              try simp only [setAt, cellsL, cellsOf_agg, cellsOf_base, List.map_cons, List.map_nil, List.set_cons_zero, List.set_cons_succ, Nat.reduceAdd, Nat.zero_add, hG]
              exact hK _
            refine aops_nil ?_
            refine AW.ret ?_
            refine ⟨.inr rfl, ?_⟩
            refine leaves_mwp2 (rs := [.cell 2 74]) rfl ?_
            simp (config := {failIfUnchanged := false}) [giveL, srcOne, rehome, freezeN, sub, ti74, upd, opn, aLoad, loadL, giveOne, reify, reifyL, readL, readOne, Mwp, M.bind, Mem.set, setAt, cellsL, hG, f0]
            all_goals (rw [gs_4 hbt17 hbt58]; rfl)
          case hf =>
            intro hb
            try simp only [Bool.or_eq_true, Bool.and_eq_true, Bool.or_eq_false_iff, Bool.and_eq_false_iff, decide_eq_true_eq, decide_eq_false_iff_not] at hb
            have hbt58 := hb
            refine AW.skip ?_
            refine AW.seq ?_
            refine AW.region (cfg := cfg) ?_
            apply aops_step (by decide) rfl
            · intro K hK
              simp (disch := first | omega | decide) only [go_sem, f0, act_load_t ti74, List.map, cellsOf_ch, cellsOf_lsa, getD_get, Int.reduceToNat, Int.toNat_zero]
              rw [mwp_load_bs (by simp (disch := first | omega | decide) only [go_sem, f0, cellsOf_ch, cellsOf_lsa, getD_get, Int.reduceToNat, Int.toNat_zero]; rfl) (by simp [setAt])]
              exact hK _
            apply aops_step0 rfl
            · intro K hK
              simp (disch := first | omega | decide) only [go_sem, f0, act_store_t ti74, List.map, cellsOf_ch, cellsOf_lsa, getD_get, Int.reduceToNat, Int.toNat_zero]
              rw [mwp_store_c (by simp (disch := first | omega | decide) only [go_sem, f0, cellsOf_ch, cellsOf_lsa, getD_get, Int.reduceToNat, Int.toNat_zero]; rfl) (by rfl) (by rfl) (by rfl) (by simp)]
              try simp only [setAt, cellsL, cellsOf_agg, cellsOf_base, List.map_cons, List.map_nil, List.set_cons_zero, List.set_cons_succ, Nat.reduceAdd, Nat.zero_add, hG]
              exact hK _
            refine aops_nil ?_
            refine AW.ret ?_
            refine ⟨.inr rfl, ?_⟩
            refine leaves_mwp2 (rs := [.cell 2 74]) rfl ?_
            simp (config := {failIfUnchanged := false}) [giveL, srcOne, rehome, freezeN, sub, ti74, upd, opn, aLoad, loadL, giveOne, reify, reifyL, readL, readOne, Mwp, M.bind, Mem.set, setAt, cellsL, hG, f0]
            all_goals (rw [gs_0 hbt17 hbt28 hbt38 hbt48 hbt58]; rfl)

end Go.Vai.C
