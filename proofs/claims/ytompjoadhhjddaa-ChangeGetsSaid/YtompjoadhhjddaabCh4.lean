import Derived.Test.YtompjoadhhjddaabCh3
namespace Go.Vai.C
open Go.Proofs Go.Vai Go.Vai.G Go.Vai.L Go.Vai.O
set_option linter.unusedSimpArgs false
set_option linter.unusedVariables false

theorem rdC_1 {l : List (BitVec 8)} {w : Bool} (h : rnV l w 1 = 1) : rdC l w = ⟨⟨rnV l w 1, rdL (rnL l w 1) (rnW l w 1), 0, 0⟩, rdOK (rnL l w 1) (rnW l w 1), rdR (rnL l w 1) (rnW l w 1), rdW (rnL l w 1) (rnW l w 1)⟩ := by
  simp only [rdC, h, if_true]
theorem rdC_2 {l : List (BitVec 8)} {w : Bool} (h : rnV l w 1 = 2) : rdC l w = ⟨⟨rnV l w 1, lsa0, IntKind.i64.wrap (rnV (rnL l w 1) (rnW l w 1) 8), 0⟩, !rnW (rnL l w 1) (rnW l w 1) 8 && chOK ⟨rnV l w 1, lsa0, IntKind.i64.wrap (rnV (rnL l w 1) (rnW l w 1) 8), 0⟩, rnL (rnL l w 1) (rnW l w 1) 8, rnW (rnL l w 1) (rnW l w 1) 8⟩ := by
  simp only [rdC, h, show ¬ ((2 : Int) = 1) by decide, if_false, if_true]
theorem rdC_4 {l : List (BitVec 8)} {w : Bool} (h : rnV l w 1 = 4) : rdC l w = ⟨⟨rnV l w 1, lsa0, rnV (rnL (rnL l w 1) (rnW l w 1) 1) (rnW (rnL l w 1) (rnW l w 1) 1) 4, rnV (rnL l w 1) (rnW l w 1) 1⟩, !rnW (rnL (rnL l w 1) (rnW l w 1) 1) (rnW (rnL l w 1) (rnW l w 1) 1) 4 && chOK ⟨rnV l w 1, lsa0, rnV (rnL (rnL l w 1) (rnW l w 1) 1) (rnW (rnL l w 1) (rnW l w 1) 1) 4, rnV (rnL l w 1) (rnW l w 1) 1⟩, rnL (rnL (rnL l w 1) (rnW l w 1) 1) (rnW (rnL l w 1) (rnW l w 1) 1) 4, rnW (rnL (rnL l w 1) (rnW l w 1) 1) (rnW (rnL l w 1) (rnW l w 1) 1) 4⟩ := by
  simp only [rdC, h, show ¬ ((4 : Int) = 1) by decide, show ¬ ((4 : Int) = 2) by decide, if_false, if_true]
theorem rdC_3 {l : List (BitVec 8)} {w : Bool} (h : rnV l w 1 = 3) : rdC l w = ⟨⟨rnV l w 1, lsa0, rnV (rnL l w 1) (rnW l w 1) 4, 0⟩, !rnW (rnL l w 1) (rnW l w 1) 4 && chOK ⟨rnV l w 1, lsa0, rnV (rnL l w 1) (rnW l w 1) 4, 0⟩, rnL (rnL l w 1) (rnW l w 1) 4, rnW (rnL l w 1) (rnW l w 1) 4⟩ := by
  simp only [rdC, h, show ¬ ((3 : Int) = 1) by decide, show ¬ ((3 : Int) = 2) by decide, show ¬ ((3 : Int) = 4) by decide, if_false, if_true]
theorem rdC_0 {l : List (BitVec 8)} {w : Bool} (h1 : ¬ rnV l w 1 = 1) (h2 : ¬ rnV l w 1 = 2) (h4 : ¬ rnV l w 1 = 4) (h3 : ¬ rnV l w 1 = 3) : rdC l w = ⟨⟨rnV l w 1, lsa0, 0, 0⟩, !rnW l w 1 && chOK ⟨rnV l w 1, lsa0, 0, 0⟩, rnL l w 1, rnW l w 1⟩ := by
  rw [ch_k0 (c := ⟨rnV l w 1, lsa0, 0, 0⟩) h1 h2 h3 h4, Bool.and_false]
  simp only [rdC, if_neg h1, if_neg h2, if_neg h3, if_neg h4]
set_option maxHeartbeats 4000000 in
set_option maxRecDepth 100000 in
theorem good_readC (nil : Bool) (l : List (BitVec 8)) (w : Bool) (hl : l.length ≤ 140737488355000) (hz : nil = true → l = []) : Good Try.prog 77 [(.gp 0 0, false)] [[.sl 1 (nil) (bsl (l)), .b (w)]] [(chA (rdC l w).c, false), (.b (rdC l w).ok, false)] [[.sl 1 (nil) (bsl ((rdC l w).l)), .b ((rdC l w).w)]] := by
  refine good_of_body2 51 Try.func77 rfl rfl rfl (by simp) ?_
  intro s m ha hr hv hG
  have f0 : s 0 = .v (.gp 0 0) := ha 0 _ rfl
  clear ha
  have v0 := rnV_range1 l w
  have v1 := rnV_range1 (rnL l w 1) (rnW l w 1)
  have v2 := rnV_range4 (rnL (rnL l w 1) (rnW l w 1) 1) (rnW (rnL l w 1) (rnW l w 1) 1)
  have v3 := rnV_range4 (rnL l w 1) (rnW l w 1)
  have ll1 := rnL_len l w 1
  have lz1 : nil = true → rnL l w 1 = [] := fun h => rnL_nil (hz h) _ _
  have ll2 := rnL_len (rnL l w 1) (rnW l w 1) 8
  have lz2 : nil = true → rnL (rnL l w 1) (rnW l w 1) 8 = [] := fun h => rnL_nil (lz1 h) _ _
  have ll3 := rnL_len (rnL l w 1) (rnW l w 1) 1
  have lz3 : nil = true → rnL (rnL l w 1) (rnW l w 1) 1 = [] := fun h => rnL_nil (lz1 h) _ _
  have ll4 := rnL_len (rnL (rnL l w 1) (rnW l w 1) 1) (rnW (rnL l w 1) (rnW l w 1) 1) 4
  have lz4 : nil = true → rnL (rnL (rnL l w 1) (rnW l w 1) 1) (rnW (rnL l w 1) (rnW l w 1) 1) 4 = [] := fun h => rnL_nil (lz3 h) _ _
  have ll5 := rnL_len (rnL l w 1) (rnW l w 1) 4
  have lz5 : nil = true → rnL (rnL l w 1) (rnW l w 1) 4 = [] := fun h => rnL_nil (lz1 h) _ _
  refine AW.seq ?_
  refine AW.region (cfg := cfg) ?_
  apply aops_step (by decide) rfl
  · intro K hK
    simp (disch := first | omega | decide) only [go_sem, f0, act_alloc_t ti74, List.map, cellsOf_ch, cellsOf_lsa, chE_dec]
    exact hK _
  iterate 1 (apply aops_step (by decide) rfl; · (intro K hK; simp (disch := first | omega | decide) only [go_sem, f0, cellsOf_ch, cellsOf_lsa, chE_dec]; exact hK _))
  refine aops_nil ?_
  refine AW.seq ?_
  refine AW.region (cfg := cfg) ?_
  iterate 1 (apply aops_step (by decide) rfl; · (intro K hK; simp (disch := first | omega | decide) only [go_sem, f0, cellsOf_ch, cellsOf_lsa, chE_dec]; exact hK _))
  apply aops_step (by decide) rfl
  · intro K hK
    simp (disch := first | omega | decide) only [go_sem, f0, act_call, List.map, cellsOf_ch, cellsOf_lsa, chE_dec]
    apply mwp_call_g rfl rfl rfl
    · intro Q hQ
      (simp (disch := first | omega | decide) only [go_sem, f0, peekL, reifyL_nil, reifyL_cons, reify_v, cellsOf_ch, cellsOf_lsa, chE_dec]; (exact hQ))
    · exact hG
    · exact O.good_NumR nil l w (by omega) hz 1
    · simp (disch := first | omega | decide) only [go_sem, f0, cellsOf_ch, cellsOf_lsa, chE_dec]
      exact hK _
  iterate 1 (apply aops_step (by decide) rfl; · (intro K hK; simp (disch := first | omega | decide) only [go_sem, f0, act_convI u97 u3, cellsOf_ch, cellsOf_lsa, chE_dec]; exact hK _))
  apply aops_step (by decide) rfl
  · intro K hK
    simp (disch := first | omega | decide) only [go_sem, f0, act_build_t ti74 pl74, List.map, cellsOf_ch, cellsOf_lsa, chE_dec]
    simp [-List.map_take, -List.map_drop, fillL, okOne, cellishAV, Value.oneCell', cellsL, cellsOf, setAt, M.bind, Mwp, mset_same, Obj.isArr]
    exact hK _
  apply aops_step (by decide) rfl
  · intro K hK
    simp (disch := first | omega | decide) only [go_sem, f0, act_alloc_t ti74, List.map, cellsOf_ch, cellsOf_lsa, chE_dec]
    exact hK _
  apply aops_step0 rfl
  · intro K hK
    simp (disch := first | omega | decide) only [go_sem, f0, act_store_t ti74, List.map, cellsOf_ch, cellsOf_lsa, chE_dec]
    rw [mwp_store_c (by simp (disch := first | omega | decide) only [go_sem, f0, cellsOf_ch, cellsOf_lsa, chE_dec]; rfl) (by rfl) (by rfl) (by rfl) (by simp)]
    try simp only [setAt, cellsL, cellsOf_agg, cellsOf_base, List.map_cons, List.map_nil, List.set_cons_zero, List.set_cons_succ, Nat.reduceAdd, Nat.zero_add, hG]
    exact hK _
  refine aops_nil ?_
  refine AW.seq ?_
  refine AW.seq ?_
  refine AW.region (cfg := cfg) ?_
  apply aops_step (by decide) rfl
  · intro K hK
    simp (disch := first | omega | decide) only [go_sem, f0, act_fieldAddr_t fo74_0, List.map, cellsOf_ch, cellsOf_lsa, chE_dec]
    rw [mwp_fieldAddr_b (by simp (disch := first | omega | decide) only [go_sem, f0, cellsOf_ch, cellsOf_lsa, chE_dec]; rfl)]
    exact hK _
  apply aops_step (by decide) rfl
  · intro K hK
    simp (disch := first | omega | decide) only [go_sem, f0, act_load_t ti3, List.map, cellsOf_ch, cellsOf_lsa, chE_dec]
    rw [mwp_load_b1 (by simp (disch := first | omega | decide) only [go_sem, f0, cellsOf_ch, cellsOf_lsa, chE_dec]; rfl) (by rfl)]
    exact hK _
  refine aops_nil ?_
  refine AW.block ?_
  refine AW.seq ?_
  refine AW.block ?_
  refine AW.seq ?_
  refine AW.block ?_
  refine AW.seq ?_
  refine AW.block ?_
  refine AW.seq ?_
  refine AW.block ?_
  refine AW.seq ?_
  refine AW.seq ?_
  refine AW.seq ?_
  refine AW.region (cfg := cfg) ?_
  iterate 2 (apply aops_step (by decide) rfl; · (intro K hK; simp (disch := first | omega | decide) only [go_sem, f0, cellsOf_ch, cellsOf_lsa, chE_dec]; exact hK _))
  refine aops_nil ?_
  apply AW.cond
  · simp (disch := first | omega | decide) only [go_sem, f0, cellsOf_ch, cellsOf_lsa, chE_dec]; rfl
  case ht =>
    intro hb
    try simp only [Bool.or_eq_true, Bool.and_eq_true, Bool.or_eq_false_iff, Bool.and_eq_false_iff, decide_eq_true_eq, decide_eq_false_iff_not] at hb
    have hbt13 := hb
    refine AW.exit ?_
    refine AW.seq ?_
    refine AW.seq ?_
    refine AW.region (cfg := cfg) ?_
    iterate 1 (apply aops_step (by decide) rfl; · (intro K hK; simp (disch := first | omega | decide) only [go_sem, f0, cellsOf_ch, cellsOf_lsa, chE_dec]; exact hK _))
    apply aops_step (by decide) rfl
    · intro K hK
      simp (disch := first | omega | decide) only [go_sem, f0, act_call, List.map, cellsOf_ch, cellsOf_lsa, chE_dec]
      apply mwp_call_g rfl rfl rfl
      · intro Q hQ
        (simp (disch := first | omega | decide) only [go_sem, f0, peekL, reifyL_nil, reifyL_cons, reify_v, cellsOf_ch, cellsOf_lsa, chE_dec]; (exact hQ))
      · rfl
      · exact L.good_Read nil (rnL l w 1) (rnW l w 1) (by omega) lz1
      · simp (disch := first | omega | decide) only [go_sem, f0, cellsOf_ch, cellsOf_lsa, chE_dec]
        exact hK _
    iterate 3 (apply aops_step (by decide) rfl; · (intro K hK; simp (disch := first | omega | decide) only [go_sem, f0, cellsOf_ch, cellsOf_lsa, chE_dec]; exact hK _))
    apply aops_step (by decide) rfl
    · intro K hK
      simp (disch := first | omega | decide) only [go_sem, f0, act_alloc_t ti24, List.map, cellsOf_ch, cellsOf_lsa, chE_dec]
      exact hK _
    apply aops_step0 rfl
    · intro K hK
      simp (disch := first | omega | decide) only [go_sem, f0, act_store_t ti24, List.map, cellsOf_ch, cellsOf_lsa, chE_dec]
      rw [mwp_store_c (by simp (disch := first | omega | decide) only [go_sem, f0, cellsOf_ch, cellsOf_lsa, chE_dec]; rfl) (by rfl) (by rfl) (by rfl) (by simp)]
      try simp only [setAt, cellsL, cellsOf_agg, cellsOf_base, List.map_cons, List.map_nil, List.set_cons_zero, List.set_cons_succ, Nat.reduceAdd, Nat.zero_add, hG]
      exact hK _
    iterate 1 (apply aops_step (by decide) rfl; · (intro K hK; simp (disch := first | omega | decide) only [go_sem, f0, cellsOf_ch, cellsOf_lsa, chE_dec]; exact hK _))
    refine aops_nil ?_
    refine AW.seq ?_
    refine AW.region (cfg := cfg) ?_
    apply aops_step (by decide) rfl
    · intro K hK
      simp (disch := first | omega | decide) only [go_sem, f0, act_load_t ti24, List.map, cellsOf_ch, cellsOf_lsa, chE_dec]
      rw [mwp_load_bs (by simp (disch := first | omega | decide) only [go_sem, f0, cellsOf_ch, cellsOf_lsa, chE_dec]; rfl) (by simp [setAt])]
      exact hK _
    apply aops_step (by decide) rfl
    · intro K hK
      simp (disch := first | omega | decide) only [go_sem, f0, act_fieldAddr_t fo74_1, List.map, cellsOf_ch, cellsOf_lsa, chE_dec]
      rw [mwp_fieldAddr_b (by simp (disch := first | omega | decide) only [go_sem, f0, cellsOf_ch, cellsOf_lsa, chE_dec]; rfl)]
      exact hK _
    apply aops_step0 rfl
    · intro K hK
      simp (disch := first | omega | decide) only [go_sem, f0, act_store_t ti24, List.map, cellsOf_ch, cellsOf_lsa, chE_dec]
      rw [mwp_store_c (by simp (disch := first | omega | decide) only [go_sem, f0, cellsOf_ch, cellsOf_lsa, chE_dec]; rfl) (by rfl) (by rfl) (by rfl) (by simp)]
      try simp only [setAt, cellsL, cellsOf_agg, cellsOf_base, List.map_cons, List.map_nil, List.set_cons_zero, List.set_cons_succ, Nat.reduceAdd, Nat.zero_add, hG]
      exact hK _
    refine aops_nil ?_
    refine AW.seq ?_
    refine AW.region (cfg := cfg) ?_
    apply aops_step (by decide) rfl
    · intro K hK
      simp (disch := first | omega | decide) only [go_sem, f0, act_load_t ti74, List.map, cellsOf_ch, cellsOf_lsa, chE_dec]
      rw [mwp_load_bs (by simp (disch := first | omega | decide) only [go_sem, f0, cellsOf_ch, cellsOf_lsa, chE_dec]; rfl) (by simp [setAt])]
      exact hK _
    iterate 1 (apply aops_step (by decide) rfl; · (intro K hK; simp (disch := first | omega | decide) only [go_sem, f0, cellsOf_ch, cellsOf_lsa, chE_dec]; exact hK _))
    apply aops_step0 rfl
    · intro K hK
      simp (disch := first | omega | decide) only [go_sem, f0, act_store_t ti74, List.map, cellsOf_ch, cellsOf_lsa, chE_dec]
      rw [mwp_store_c (by simp (disch := first | omega | decide) only [go_sem, f0, cellsOf_ch, cellsOf_lsa, chE_dec]; rfl) (by rfl) (by rfl) (by rfl) (by simp)]
      try simp only [setAt, cellsL, cellsOf_agg, cellsOf_base, List.map_cons, List.map_nil, List.set_cons_zero, List.set_cons_succ, Nat.reduceAdd, Nat.zero_add, hG]
      exact hK _
    iterate 1 (apply aops_step (by decide) rfl; · (intro K hK; simp (disch := first | omega | decide) only [go_sem, f0, cellsOf_ch, cellsOf_lsa, chE_dec]; exact hK _))
    refine aops_nil ?_
    refine AW.ret ?_
    refine ⟨.inr rfl, ?_⟩
    refine leaves_mwp2 (rs := [.cell 2 74, .tmp 3]) rfl ?_
    simp (config := {failIfUnchanged := false}) [giveL, srcOne, rehome, freezeN, sub, ti74, upd, opn, aLoad, loadL, giveOne, reify, reifyL, readL, readOne, Mwp, M.bind, Mem.set, setAt, cellsL, hG, f0]
    all_goals (rw [rdC_1 hbt13]; exact ⟨⟨rfl, rfl⟩, rfl, rfl⟩)
  case hf =>
    intro hb
    try simp only [Bool.or_eq_true, Bool.and_eq_true, Bool.or_eq_false_iff, Bool.and_eq_false_iff, decide_eq_true_eq, decide_eq_false_iff_not] at hb
    have hbt13 := hb
    refine AW.skip ?_
    refine AW.seq ?_
    refine AW.seq ?_
    refine AW.region (cfg := cfg) ?_
    iterate 2 (apply aops_step (by decide) rfl; · (intro K hK; simp (disch := first | omega | decide) only [go_sem, f0, cellsOf_ch, cellsOf_lsa, chE_dec]; exact hK _))
    refine aops_nil ?_
    apply AW.cond
    · simp (disch := first | omega | decide) only [go_sem, f0, cellsOf_ch, cellsOf_lsa, chE_dec]; rfl
    case ht =>
      intro hb
      try simp only [Bool.or_eq_true, Bool.and_eq_true, Bool.or_eq_false_iff, Bool.and_eq_false_iff, decide_eq_true_eq, decide_eq_false_iff_not] at hb
      have hbt15 := hb
      refine AW.exit ?_
      refine AW.seq ?_
      refine AW.region (cfg := cfg) ?_
      iterate 1 (apply aops_step (by decide) rfl; · (intro K hK; simp (disch := first | omega | decide) only [go_sem, f0, cellsOf_ch, cellsOf_lsa, chE_dec]; exact hK _))
      apply aops_step (by decide) rfl
      · intro K hK
        simp (disch := first | omega | decide) only [go_sem, f0, act_call, List.map, cellsOf_ch, cellsOf_lsa, chE_dec]
        apply mwp_call_g rfl rfl rfl
        · intro Q hQ
          (simp (disch := first | omega | decide) only [go_sem, f0, peekL, reifyL_nil, reifyL_cons, reify_v, cellsOf_ch, cellsOf_lsa, chE_dec]; (exact hQ))
        · rfl
        · exact O.good_NumR nil (rnL l w 1) (rnW l w 1) (by omega) lz1 8
        · simp (disch := first | omega | decide) only [go_sem, f0, cellsOf_ch, cellsOf_lsa, chE_dec]
          exact hK _
      iterate 1 (apply aops_step (by decide) rfl; · (intro K hK; simp (disch := first | omega | decide) only [go_sem, f0, act_convI u97 u3, cellsOf_ch, cellsOf_lsa, chE_dec]; exact hK _))
      apply aops_step (by decide) rfl
      · intro K hK
        simp (disch := first | omega | decide) only [go_sem, f0, act_fieldAddr_t fo74_2, List.map, cellsOf_ch, cellsOf_lsa, chE_dec]
        rw [mwp_fieldAddr_b (by simp (disch := first | omega | decide) only [go_sem, f0, cellsOf_ch, cellsOf_lsa, chE_dec]; rfl)]
        exact hK _
      apply aops_step0 rfl
      · intro K hK
        simp (disch := first | omega | decide) only [go_sem, f0, act_store_t ti3, List.map, cellsOf_ch, cellsOf_lsa, chE_dec]
        rw [mwp_store_c (by simp (disch := first | omega | decide) only [go_sem, f0, cellsOf_ch, cellsOf_lsa, chE_dec]; rfl) (by rfl) (by rfl) (by rfl) (by simp)]
        try simp only [setAt, cellsL, cellsOf_agg, cellsOf_base, List.map_cons, List.map_nil, List.set_cons_zero, List.set_cons_succ, Nat.reduceAdd, Nat.zero_add, hG]
        exact hK _
      refine aops_nil ?_
      refine AW.exit ?_
      refine AW.seq ?_
      refine AW.draw (cfg := cfg) (by kernel_rfl) (by kernel_rfl) (by kernel_rfl) ?_
      apply adraw_step rfl
      · intro K hK
        simp (disch := first | omega | decide) only [go_sem, f0, act_load_t ti74, List.map, cellsOf_ch, cellsOf_lsa, chE_dec]
        rw [mwp_load_bs (by simp (disch := first | omega | decide) only [go_sem, f0, cellsOf_ch, cellsOf_lsa, chE_dec]; rfl) (by simp [setAt])]
        exact hK
      iterate 1 (apply adraw_step rfl; · (intro K hK; simp (disch := first | omega | decide) only [go_sem, f0, cellsOf_ch, cellsOf_lsa, chE_dec]; exact hK))
      apply adraw_step rfl
      · intro K hK
        simp (disch := first | omega | decide) only [go_sem, f0, act_call, List.map, cellsOf_ch, cellsOf_lsa, chE_dec]
        apply mwp_call_g rfl rfl rfl
        · intro Q hQ
          (simp (disch := first | omega | decide) only [go_sem, f0, peekL, reifyL_nil, reifyL_cons, reify_v, cellsOf_ch, cellsOf_lsa, chE_dec]; (exact hQ))
        · rfl
        · exact O.good_Wrong nil _ _ (by omega) (by assumption)
        · simp (disch := first | omega | decide) only [go_sem, f0, cellsOf_ch, cellsOf_lsa, chE_dec]
          exact hK
      iterate 2 (apply adraw_step rfl; · (intro K hK; simp (disch := first | omega | decide) only [go_sem, f0, cellsOf_ch, cellsOf_lsa, chE_dec]; exact hK))
      apply adraw_merge' (by exact want_of (d := 46) rfl (by simp (disch := first | omega | decide) only [go_sem, f0, opn_cond, cellsOf_ch, cellsOf_lsa, chE_dec]; rfl))
      · intro hc K hK
        have hc2 := hc
        simp only [beq_iff_eq, decide_eq_true_eq, decide_eq_false_iff_not, Bool.or_eq_true, Bool.and_eq_true, Bool.or_eq_false_iff, Bool.and_eq_false_iff] at hc2
        simp (disch := first | omega | decide) only [go_sem, f0, opn_cond, hc, if_true, act_load_t ti74, cellsOf_ch, cellsOf_lsa, chE_dec]
        rw [mwp_load_bs (by simp (disch := first | omega | decide) only [go_sem, f0, opn_cond, hc, if_true, cellsOf_ch, cellsOf_lsa, chE_dec]; rfl) (by simp [setAt])]
        exact hK
      apply adraw_merge' (by exact want_of (d := 46) rfl (by simp (disch := first | omega | decide) only [go_sem, f0, opn_cond, cellsOf_ch, cellsOf_lsa, chE_dec]; rfl))
      · intro hc K hK
        have hc2 := hc
        simp only [beq_iff_eq, decide_eq_true_eq, decide_eq_false_iff_not, Bool.or_eq_true, Bool.and_eq_true, Bool.or_eq_false_iff, Bool.and_eq_false_iff] at hc2
        simp (disch := first | omega | decide) only [go_sem, f0, opn_cond, hc, if_true, act_call, List.map, cellsOf_ch, cellsOf_lsa, chE_dec]
        apply mwp_call_s rfl rfl rfl
        · intro Q hQ
          (simp (disch := first | omega | decide) only [go_sem, f0, opn_cond, hc, if_true, peekL, reifyL_nil, reifyL_cons, reify_v, cellsOf_ch, cellsOf_lsa, chE_dec]; (exact hQ))
        · exact (by exact good_CheckC ⟨rnV l w 1, lsa0, IntKind.i64.wrap (rnV (rnL l w 1) (rnW l w 1) 8), 0⟩ (by simp [lsa0]))
        · simp [-List.map_take, -List.map_drop, -List.map_append, -List.map_replicate, -List.reduceReplicate, noPtrL, noPtr, noPtrL_bsl, noPtrL_map, sub]
        · rfl
        · exact hK
      apply adraw_merge' (by exact want_of (d := 46) rfl (by simp (disch := first | omega | decide) only [go_sem, f0, opn_cond, cellsOf_ch, cellsOf_lsa, chE_dec]; rfl))
      · intro hc K hK
        have hc2 := hc
        simp only [beq_iff_eq, decide_eq_true_eq, decide_eq_false_iff_not, Bool.or_eq_true, Bool.and_eq_true, Bool.or_eq_false_iff, Bool.and_eq_false_iff] at hc2
        simp (disch := first | omega | decide) only [go_sem, f0, opn_cond, hc, if_true, cellsOf_ch, cellsOf_lsa, chE_dec]
        exact hK
      iterate 1 (apply adraw_step rfl; · (intro K hK; simp (disch := first | omega | decide) only [go_sem, f0, cellsOf_ch, cellsOf_lsa, chE_dec]; exact hK))
      apply adraw_step0 rfl
      · intro K hK
        simp (disch := first | omega | decide) only [go_sem, f0, act_store_t ti74, List.map, cellsOf_ch, cellsOf_lsa, chE_dec]
        rw [mwp_store_c (by simp (disch := first | omega | decide) only [go_sem, f0, cellsOf_ch, cellsOf_lsa, chE_dec]; rfl) (by rfl) (by rfl) (by rfl) (by simp)]
        try simp only [setAt, cellsL, cellsOf_agg, cellsOf_base, List.map_cons, List.map_nil, List.set_cons_zero, List.set_cons_succ, Nat.reduceAdd, Nat.zero_add, hG]
        exact hK
      iterate 1 (apply adraw_step rfl; · (intro K hK; simp (disch := first | omega | decide) only [go_sem, f0, cellsOf_ch, cellsOf_lsa, chE_dec]; exact hK))
      refine adraw_nil (by kernel_rfl) ?_
      refine AW.ret ?_
      refine ⟨.inr rfl, ?_⟩
      refine leaves_mwp2 (rs := [.cell 2 74, .tmp 3]) rfl ?_
      simp (config := {failIfUnchanged := false}) [giveL, srcOne, rehome, freezeN, sub, ti74, upd, opn, aLoad, loadL, giveOne, reify, reifyL, readL, readOne, Mwp, M.bind, Mem.set, setAt, cellsL, hG, f0]
      all_goals (rw [rdC_2 hbt15]; exact ⟨⟨rfl, rfl⟩, rfl, rfl⟩)
    case hf =>
      intro hb
      try simp only [Bool.or_eq_true, Bool.and_eq_true, Bool.or_eq_false_iff, Bool.and_eq_false_iff, decide_eq_true_eq, decide_eq_false_iff_not] at hb
      have hbt15 := hb
      refine AW.skip ?_
      refine AW.seq ?_
      refine AW.seq ?_
      refine AW.region (cfg := cfg) ?_
      iterate 2 (apply aops_step (by decide) rfl; · (intro K hK; simp (disch := first | omega | decide) only [go_sem, f0, cellsOf_ch, cellsOf_lsa, chE_dec]; exact hK _))
      refine aops_nil ?_
      apply AW.cond
      · simp (disch := first | omega | decide) only [go_sem, f0, cellsOf_ch, cellsOf_lsa, chE_dec]; rfl
      case ht =>
        intro hb
        try simp only [Bool.or_eq_true, Bool.and_eq_true, Bool.or_eq_false_iff, Bool.and_eq_false_iff, decide_eq_true_eq, decide_eq_false_iff_not] at hb
        have hbt17 := hb
        refine AW.exit ?_
        refine AW.region (cfg := cfg) ?_
        iterate 1 (apply aops_step (by decide) rfl; · (intro K hK; simp (disch := first | omega | decide) only [go_sem, f0, cellsOf_ch, cellsOf_lsa, chE_dec]; exact hK _))
        apply aops_step (by decide) rfl
        · intro K hK
          simp (disch := first | omega | decide) only [go_sem, f0, act_call, List.map, cellsOf_ch, cellsOf_lsa, chE_dec]
          apply mwp_call_g rfl rfl rfl
          · intro Q hQ
            (simp (disch := first | omega | decide) only [go_sem, f0, peekL, reifyL_nil, reifyL_cons, reify_v, cellsOf_ch, cellsOf_lsa, chE_dec]; (exact hQ))
          · rfl
          · exact O.good_NumR nil (rnL l w 1) (rnW l w 1) (by omega) lz1 1
          · simp (disch := first | omega | decide) only [go_sem, f0, cellsOf_ch, cellsOf_lsa, chE_dec]
            exact hK _
        iterate 1 (apply aops_step (by decide) rfl; · (intro K hK; simp (disch := first | omega | decide) only [go_sem, f0, act_convI u97 u3, cellsOf_ch, cellsOf_lsa, chE_dec]; exact hK _))
        apply aops_step (by decide) rfl
        · intro K hK
          simp (disch := first | omega | decide) only [go_sem, f0, act_fieldAddr_t fo74_3, List.map, cellsOf_ch, cellsOf_lsa, chE_dec]
          rw [mwp_fieldAddr_b (by simp (disch := first | omega | decide) only [go_sem, f0, cellsOf_ch, cellsOf_lsa, chE_dec]; rfl)]
          exact hK _
        apply aops_step0 rfl
        · intro K hK
          simp (disch := first | omega | decide) only [go_sem, f0, act_store_t ti3, List.map, cellsOf_ch, cellsOf_lsa, chE_dec]
          rw [mwp_store_c (by simp (disch := first | omega | decide) only [go_sem, f0, cellsOf_ch, cellsOf_lsa, chE_dec]; rfl) (by rfl) (by rfl) (by rfl) (by simp)]
          try simp only [setAt, cellsL, cellsOf_agg, cellsOf_base, List.map_cons, List.map_nil, List.set_cons_zero, List.set_cons_succ, Nat.reduceAdd, Nat.zero_add, hG]
          exact hK _
        refine aops_nil ?_
        refine AW.seq ?_
        refine AW.region (cfg := cfg) ?_
        iterate 1 (apply aops_step (by decide) rfl; · (intro K hK; simp (disch := first | omega | decide) only [go_sem, f0, cellsOf_ch, cellsOf_lsa, chE_dec]; exact hK _))
        apply aops_step (by decide) rfl
        · intro K hK
          simp (disch := first | omega | decide) only [go_sem, f0, act_call, List.map, cellsOf_ch, cellsOf_lsa, chE_dec]
          apply mwp_call_g rfl rfl rfl
          · intro Q hQ
            (simp (disch := first | omega | decide) only [go_sem, f0, peekL, reifyL_nil, reifyL_cons, reify_v, cellsOf_ch, cellsOf_lsa, chE_dec]; (exact hQ))
          · rfl
          · exact (by exact O.good_NumR nil (rnL (rnL l w 1) (rnW l w 1) 1) (rnW (rnL l w 1) (rnW l w 1) 1) (by omega) lz3 4)
          · simp (disch := first | omega | decide) only [go_sem, f0, cellsOf_ch, cellsOf_lsa, chE_dec]
            exact hK _
        iterate 1 (apply aops_step (by decide) rfl; · (intro K hK; simp (disch := first | omega | decide) only [go_sem, f0, act_convI u97 u3, cellsOf_ch, cellsOf_lsa, chE_dec]; exact hK _))
        apply aops_step (by decide) rfl
        · intro K hK
          simp (disch := first | omega | decide) only [go_sem, f0, act_fieldAddr_t fo74_2, List.map, cellsOf_ch, cellsOf_lsa, chE_dec]
          rw [mwp_fieldAddr_b (by simp (disch := first | omega | decide) only [go_sem, f0, cellsOf_ch, cellsOf_lsa, chE_dec]; rfl)]
          exact hK _
        apply aops_step0 rfl
        · intro K hK
          simp (disch := first | omega | decide) only [go_sem, f0, act_store_t ti3, List.map, cellsOf_ch, cellsOf_lsa, chE_dec]
          rw [mwp_store_c (by simp (disch := first | omega | decide) only [go_sem, f0, cellsOf_ch, cellsOf_lsa, chE_dec]; rfl) (by rfl) (by rfl) (by rfl) (by simp)]
          try simp only [setAt, cellsL, cellsOf_agg, cellsOf_base, List.map_cons, List.map_nil, List.set_cons_zero, List.set_cons_succ, Nat.reduceAdd, Nat.zero_add, hG]
          exact hK _
        refine aops_nil ?_
        refine AW.exit ?_
        refine AW.seq ?_
        refine AW.draw (cfg := cfg) (by kernel_rfl) (by kernel_rfl) (by kernel_rfl) ?_
        apply adraw_step rfl
        · intro K hK
          simp (disch := first | omega | decide) only [go_sem, f0, act_load_t ti74, List.map, cellsOf_ch, cellsOf_lsa, chE_dec]
          rw [mwp_load_bs (by simp (disch := first | omega | decide) only [go_sem, f0, cellsOf_ch, cellsOf_lsa, chE_dec]; rfl) (by simp [setAt])]
          exact hK
        iterate 1 (apply adraw_step rfl; · (intro K hK; simp (disch := first | omega | decide) only [go_sem, f0, cellsOf_ch, cellsOf_lsa, chE_dec]; exact hK))
        apply adraw_step rfl
        · intro K hK
          simp (disch := first | omega | decide) only [go_sem, f0, act_call, List.map, cellsOf_ch, cellsOf_lsa, chE_dec]
          apply mwp_call_g rfl rfl rfl
          · intro Q hQ
            (simp (disch := first | omega | decide) only [go_sem, f0, peekL, reifyL_nil, reifyL_cons, reify_v, cellsOf_ch, cellsOf_lsa, chE_dec]; (exact hQ))
          · rfl
          · exact O.good_Wrong nil _ _ (by omega) (by assumption)
          · simp (disch := first | omega | decide) only [go_sem, f0, cellsOf_ch, cellsOf_lsa, chE_dec]
            exact hK
        iterate 2 (apply adraw_step rfl; · (intro K hK; simp (disch := first | omega | decide) only [go_sem, f0, cellsOf_ch, cellsOf_lsa, chE_dec]; exact hK))
        apply adraw_merge' (by exact want_of (d := 46) rfl (by simp (disch := first | omega | decide) only [go_sem, f0, opn_cond, cellsOf_ch, cellsOf_lsa, chE_dec]; rfl))
        · intro hc K hK
          have hc2 := hc
          simp only [beq_iff_eq, decide_eq_true_eq, decide_eq_false_iff_not, Bool.or_eq_true, Bool.and_eq_true, Bool.or_eq_false_iff, Bool.and_eq_false_iff] at hc2
          simp (disch := first | omega | decide) only [go_sem, f0, opn_cond, hc, if_true, act_load_t ti74, cellsOf_ch, cellsOf_lsa, chE_dec]
          rw [mwp_load_bs (by simp (disch := first | omega | decide) only [go_sem, f0, opn_cond, hc, if_true, cellsOf_ch, cellsOf_lsa, chE_dec]; rfl) (by simp [setAt])]
          exact hK
        apply adraw_merge' (by exact want_of (d := 46) rfl (by simp (disch := first | omega | decide) only [go_sem, f0, opn_cond, cellsOf_ch, cellsOf_lsa, chE_dec]; rfl))
        · intro hc K hK
          have hc2 := hc
          simp only [beq_iff_eq, decide_eq_true_eq, decide_eq_false_iff_not, Bool.or_eq_true, Bool.and_eq_true, Bool.or_eq_false_iff, Bool.and_eq_false_iff] at hc2
          simp (disch := first | omega | decide) only [go_sem, f0, opn_cond, hc, if_true, act_call, List.map, cellsOf_ch, cellsOf_lsa, chE_dec]
          apply mwp_call_s rfl rfl rfl
          · intro Q hQ
            (simp (disch := first | omega | decide) only [go_sem, f0, opn_cond, hc, if_true, peekL, reifyL_nil, reifyL_cons, reify_v, cellsOf_ch, cellsOf_lsa, chE_dec]; (exact hQ))
          · exact (by exact good_CheckC ⟨rnV l w 1, lsa0, rnV (rnL (rnL l w 1) (rnW l w 1) 1) (rnW (rnL l w 1) (rnW l w 1) 1) 4, rnV (rnL l w 1) (rnW l w 1) 1⟩ (by simp [lsa0]))
          · simp [-List.map_take, -List.map_drop, -List.map_append, -List.map_replicate, -List.reduceReplicate, noPtrL, noPtr, noPtrL_bsl, noPtrL_map, sub]
          · rfl
          · exact hK
        apply adraw_merge' (by exact want_of (d := 46) rfl (by simp (disch := first | omega | decide) only [go_sem, f0, opn_cond, cellsOf_ch, cellsOf_lsa, chE_dec]; rfl))
        · intro hc K hK
          have hc2 := hc
          simp only [beq_iff_eq, decide_eq_true_eq, decide_eq_false_iff_not, Bool.or_eq_true, Bool.and_eq_true, Bool.or_eq_false_iff, Bool.and_eq_false_iff] at hc2
          simp (disch := first | omega | decide) only [go_sem, f0, opn_cond, hc, if_true, cellsOf_ch, cellsOf_lsa, chE_dec]
          exact hK
        iterate 1 (apply adraw_step rfl; · (intro K hK; simp (disch := first | omega | decide) only [go_sem, f0, cellsOf_ch, cellsOf_lsa, chE_dec]; exact hK))
        apply adraw_step0 rfl
        · intro K hK
          simp (disch := first | omega | decide) only [go_sem, f0, act_store_t ti74, List.map, cellsOf_ch, cellsOf_lsa, chE_dec]
          rw [mwp_store_c (by simp (disch := first | omega | decide) only [go_sem, f0, cellsOf_ch, cellsOf_lsa, chE_dec]; rfl) (by rfl) (by rfl) (by rfl) (by simp)]
          try simp only [setAt, cellsL, cellsOf_agg, cellsOf_base, List.map_cons, List.map_nil, List.set_cons_zero, List.set_cons_succ, Nat.reduceAdd, Nat.zero_add, hG]
          exact hK
        iterate 1 (apply adraw_step rfl; · (intro K hK; simp (disch := first | omega | decide) only [go_sem, f0, cellsOf_ch, cellsOf_lsa, chE_dec]; exact hK))
        refine adraw_nil (by kernel_rfl) ?_
        refine AW.ret ?_
        refine ⟨.inr rfl, ?_⟩
        refine leaves_mwp2 (rs := [.cell 2 74, .tmp 3]) rfl ?_
        simp (config := {failIfUnchanged := false}) [giveL, srcOne, rehome, freezeN, sub, ti74, upd, opn, aLoad, loadL, giveOne, reify, reifyL, readL, readOne, Mwp, M.bind, Mem.set, setAt, cellsL, hG, f0]
        all_goals (rw [rdC_4 hbt17]; exact ⟨⟨rfl, rfl⟩, rfl, rfl⟩)
      case hf =>
        intro hb
        try simp only [Bool.or_eq_true, Bool.and_eq_true, Bool.or_eq_false_iff, Bool.and_eq_false_iff, decide_eq_true_eq, decide_eq_false_iff_not] at hb
        have hbt17 := hb
        refine AW.skip ?_
        refine AW.seq ?_
        refine AW.region (cfg := cfg) ?_
        iterate 2 (apply aops_step (by decide) rfl; · (intro K hK; simp (disch := first | omega | decide) only [go_sem, f0, cellsOf_ch, cellsOf_lsa, chE_dec]; exact hK _))
        refine aops_nil ?_
        apply AW.cond
        · simp (disch := first | omega | decide) only [go_sem, f0, cellsOf_ch, cellsOf_lsa, chE_dec]; rfl
        case ht =>
          intro hb
          try simp only [Bool.or_eq_true, Bool.and_eq_true, Bool.or_eq_false_iff, Bool.and_eq_false_iff, decide_eq_true_eq, decide_eq_false_iff_not] at hb
          have hbt19 := hb
          refine AW.exit ?_
          refine AW.seq ?_
          refine AW.region (cfg := cfg) ?_
          iterate 1 (apply aops_step (by decide) rfl; · (intro K hK; simp (disch := first | omega | decide) only [go_sem, f0, cellsOf_ch, cellsOf_lsa, chE_dec]; exact hK _))
          apply aops_step (by decide) rfl
          · intro K hK
            simp (disch := first | omega | decide) only [go_sem, f0, act_call, List.map, cellsOf_ch, cellsOf_lsa, chE_dec]
            apply mwp_call_g rfl rfl rfl
            · intro Q hQ
              (simp (disch := first | omega | decide) only [go_sem, f0, peekL, reifyL_nil, reifyL_cons, reify_v, cellsOf_ch, cellsOf_lsa, chE_dec]; (exact hQ))
            · rfl
            · exact (by exact O.good_NumR nil (rnL l w 1) (rnW l w 1) (by omega) lz1 4)
            · simp (disch := first | omega | decide) only [go_sem, f0, cellsOf_ch, cellsOf_lsa, chE_dec]
              exact hK _
          iterate 1 (apply aops_step (by decide) rfl; · (intro K hK; simp (disch := first | omega | decide) only [go_sem, f0, act_convI u97 u3, cellsOf_ch, cellsOf_lsa, chE_dec]; exact hK _))
          apply aops_step (by decide) rfl
          · intro K hK
            simp (disch := first | omega | decide) only [go_sem, f0, act_fieldAddr_t fo74_2, List.map, cellsOf_ch, cellsOf_lsa, chE_dec]
            rw [mwp_fieldAddr_b (by simp (disch := first | omega | decide) only [go_sem, f0, cellsOf_ch, cellsOf_lsa, chE_dec]; rfl)]
            exact hK _
          apply aops_step0 rfl
          · intro K hK
            simp (disch := first | omega | decide) only [go_sem, f0, act_store_t ti3, List.map, cellsOf_ch, cellsOf_lsa, chE_dec]
            rw [mwp_store_c (by simp (disch := first | omega | decide) only [go_sem, f0, cellsOf_ch, cellsOf_lsa, chE_dec]; rfl) (by rfl) (by rfl) (by rfl) (by simp)]
            try simp only [setAt, cellsL, cellsOf_agg, cellsOf_base, List.map_cons, List.map_nil, List.set_cons_zero, List.set_cons_succ, Nat.reduceAdd, Nat.zero_add, hG]
            exact hK _
          refine aops_nil ?_
          refine AW.exit ?_
          refine AW.seq ?_
          refine AW.draw (cfg := cfg) (by kernel_rfl) (by kernel_rfl) (by kernel_rfl) ?_
          apply adraw_step rfl
          · intro K hK
            simp (disch := first | omega | decide) only [go_sem, f0, act_load_t ti74, List.map, cellsOf_ch, cellsOf_lsa, chE_dec]
            rw [mwp_load_bs (by simp (disch := first | omega | decide) only [go_sem, f0, cellsOf_ch, cellsOf_lsa, chE_dec]; rfl) (by simp [setAt])]
            exact hK
          iterate 1 (apply adraw_step rfl; · (intro K hK; simp (disch := first | omega | decide) only [go_sem, f0, cellsOf_ch, cellsOf_lsa, chE_dec]; exact hK))
          apply adraw_step rfl
          · intro K hK
            simp (disch := first | omega | decide) only [go_sem, f0, act_call, List.map, cellsOf_ch, cellsOf_lsa, chE_dec]
            apply mwp_call_g rfl rfl rfl
            · intro Q hQ
              (simp (disch := first | omega | decide) only [go_sem, f0, peekL, reifyL_nil, reifyL_cons, reify_v, cellsOf_ch, cellsOf_lsa, chE_dec]; (exact hQ))
            · rfl
            · exact O.good_Wrong nil _ _ (by omega) (by assumption)
            · simp (disch := first | omega | decide) only [go_sem, f0, cellsOf_ch, cellsOf_lsa, chE_dec]
              exact hK
          iterate 2 (apply adraw_step rfl; · (intro K hK; simp (disch := first | omega | decide) only [go_sem, f0, cellsOf_ch, cellsOf_lsa, chE_dec]; exact hK))
          apply adraw_merge' (by exact want_of (d := 46) rfl (by simp (disch := first | omega | decide) only [go_sem, f0, opn_cond, cellsOf_ch, cellsOf_lsa, chE_dec]; rfl))
          · intro hc K hK
            have hc2 := hc
            simp only [beq_iff_eq, decide_eq_true_eq, decide_eq_false_iff_not, Bool.or_eq_true, Bool.and_eq_true, Bool.or_eq_false_iff, Bool.and_eq_false_iff] at hc2
            simp (disch := first | omega | decide) only [go_sem, f0, opn_cond, hc, if_true, act_load_t ti74, cellsOf_ch, cellsOf_lsa, chE_dec]
            rw [mwp_load_bs (by simp (disch := first | omega | decide) only [go_sem, f0, opn_cond, hc, if_true, cellsOf_ch, cellsOf_lsa, chE_dec]; rfl) (by simp [setAt])]
            exact hK
          apply adraw_merge' (by exact want_of (d := 46) rfl (by simp (disch := first | omega | decide) only [go_sem, f0, opn_cond, cellsOf_ch, cellsOf_lsa, chE_dec]; rfl))
          · intro hc K hK
            have hc2 := hc
            simp only [beq_iff_eq, decide_eq_true_eq, decide_eq_false_iff_not, Bool.or_eq_true, Bool.and_eq_true, Bool.or_eq_false_iff, Bool.and_eq_false_iff] at hc2
            simp (disch := first | omega | decide) only [go_sem, f0, opn_cond, hc, if_true, act_call, List.map, cellsOf_ch, cellsOf_lsa, chE_dec]
            apply mwp_call_s rfl rfl rfl
            · intro Q hQ
              (simp (disch := first | omega | decide) only [go_sem, f0, opn_cond, hc, if_true, peekL, reifyL_nil, reifyL_cons, reify_v, cellsOf_ch, cellsOf_lsa, chE_dec]; (exact hQ))
            · exact (by exact good_CheckC ⟨rnV l w 1, lsa0, rnV (rnL l w 1) (rnW l w 1) 4, 0⟩ (by simp [lsa0]))
            · simp [-List.map_take, -List.map_drop, -List.map_append, -List.map_replicate, -List.reduceReplicate, noPtrL, noPtr, noPtrL_bsl, noPtrL_map, sub]
            · rfl
            · exact hK
          apply adraw_merge' (by exact want_of (d := 46) rfl (by simp (disch := first | omega | decide) only [go_sem, f0, opn_cond, cellsOf_ch, cellsOf_lsa, chE_dec]; rfl))
          · intro hc K hK
            have hc2 := hc
            simp only [beq_iff_eq, decide_eq_true_eq, decide_eq_false_iff_not, Bool.or_eq_true, Bool.and_eq_true, Bool.or_eq_false_iff, Bool.and_eq_false_iff] at hc2
            simp (disch := first | omega | decide) only [go_sem, f0, opn_cond, hc, if_true, cellsOf_ch, cellsOf_lsa, chE_dec]
            exact hK
          iterate 1 (apply adraw_step rfl; · (intro K hK; simp (disch := first | omega | decide) only [go_sem, f0, cellsOf_ch, cellsOf_lsa, chE_dec]; exact hK))
          apply adraw_step0 rfl
          · intro K hK
            simp (disch := first | omega | decide) only [go_sem, f0, act_store_t ti74, List.map, cellsOf_ch, cellsOf_lsa, chE_dec]
            rw [mwp_store_c (by simp (disch := first | omega | decide) only [go_sem, f0, cellsOf_ch, cellsOf_lsa, chE_dec]; rfl) (by rfl) (by rfl) (by rfl) (by simp)]
            try simp only [setAt, cellsL, cellsOf_agg, cellsOf_base, List.map_cons, List.map_nil, List.set_cons_zero, List.set_cons_succ, Nat.reduceAdd, Nat.zero_add, hG]
            exact hK
          iterate 1 (apply adraw_step rfl; · (intro K hK; simp (disch := first | omega | decide) only [go_sem, f0, cellsOf_ch, cellsOf_lsa, chE_dec]; exact hK))
          refine adraw_nil (by kernel_rfl) ?_
          refine AW.ret ?_
          refine ⟨.inr rfl, ?_⟩
          refine leaves_mwp2 (rs := [.cell 2 74, .tmp 3]) rfl ?_
          simp (config := {failIfUnchanged := false}) [giveL, srcOne, rehome, freezeN, sub, ti74, upd, opn, aLoad, loadL, giveOne, reify, reifyL, readL, readOne, Mwp, M.bind, Mem.set, setAt, cellsL, hG, f0]
          all_goals (rw [rdC_3 hbt19]; exact ⟨⟨rfl, rfl⟩, rfl, rfl⟩)
        case hf =>
          intro hb
          try simp only [Bool.or_eq_true, Bool.and_eq_true, Bool.or_eq_false_iff, Bool.and_eq_false_iff, decide_eq_true_eq, decide_eq_false_iff_not] at hb
          have hbt19 := hb
          refine AW.skip ?_
          refine AW.exit ?_
          refine AW.seq ?_
          refine AW.draw (cfg := cfg) (by kernel_rfl) (by kernel_rfl) (by kernel_rfl) ?_
          apply adraw_step rfl
          · intro K hK
            simp (disch := first | omega | decide) only [go_sem, f0, act_load_t ti74, List.map, cellsOf_ch, cellsOf_lsa, chE_dec]
            rw [mwp_load_bs (by simp (disch := first | omega | decide) only [go_sem, f0, cellsOf_ch, cellsOf_lsa, chE_dec]; rfl) (by simp [setAt])]
            exact hK
          iterate 1 (apply adraw_step rfl; · (intro K hK; simp (disch := first | omega | decide) only [go_sem, f0, cellsOf_ch, cellsOf_lsa, chE_dec]; exact hK))
          apply adraw_step rfl
          · intro K hK
            simp (disch := first | omega | decide) only [go_sem, f0, act_call, List.map, cellsOf_ch, cellsOf_lsa, chE_dec]
            apply mwp_call_g rfl rfl rfl
            · intro Q hQ
              (simp (disch := first | omega | decide) only [go_sem, f0, peekL, reifyL_nil, reifyL_cons, reify_v, cellsOf_ch, cellsOf_lsa, chE_dec]; (exact hQ))
            · rfl
            · exact O.good_Wrong nil _ _ (by omega) (by assumption)
            · simp (disch := first | omega | decide) only [go_sem, f0, cellsOf_ch, cellsOf_lsa, chE_dec]
              exact hK
          iterate 2 (apply adraw_step rfl; · (intro K hK; simp (disch := first | omega | decide) only [go_sem, f0, cellsOf_ch, cellsOf_lsa, chE_dec]; exact hK))
          apply adraw_merge' (by exact want_of (d := 46) rfl (by simp (disch := first | omega | decide) only [go_sem, f0, opn_cond, cellsOf_ch, cellsOf_lsa, chE_dec]; rfl))
          · intro hc K hK
            have hc2 := hc
            simp only [beq_iff_eq, decide_eq_true_eq, decide_eq_false_iff_not, Bool.or_eq_true, Bool.and_eq_true, Bool.or_eq_false_iff, Bool.and_eq_false_iff] at hc2
            simp (disch := first | omega | decide) only [go_sem, f0, opn_cond, hc, if_true, act_load_t ti74, cellsOf_ch, cellsOf_lsa, chE_dec]
            rw [mwp_load_bs (by simp (disch := first | omega | decide) only [go_sem, f0, opn_cond, hc, if_true, cellsOf_ch, cellsOf_lsa, chE_dec]; rfl) (by simp [setAt])]
            exact hK
          apply adraw_merge' (by exact want_of (d := 46) rfl (by simp (disch := first | omega | decide) only [go_sem, f0, opn_cond, cellsOf_ch, cellsOf_lsa, chE_dec]; rfl))
          · intro hc K hK
            have hc2 := hc
            simp only [beq_iff_eq, decide_eq_true_eq, decide_eq_false_iff_not, Bool.or_eq_true, Bool.and_eq_true, Bool.or_eq_false_iff, Bool.and_eq_false_iff] at hc2
            simp (disch := first | omega | decide) only [go_sem, f0, opn_cond, hc, if_true, act_call, List.map, cellsOf_ch, cellsOf_lsa, chE_dec]
            apply mwp_call_s rfl rfl rfl
            · intro Q hQ
              (simp (disch := first | omega | decide) only [go_sem, f0, opn_cond, hc, if_true, peekL, reifyL_nil, reifyL_cons, reify_v, cellsOf_ch, cellsOf_lsa, chE_dec]; (exact hQ))
            · exact (by exact good_CheckC ⟨rnV l w 1, lsa0, 0, 0⟩ (by simp [lsa0]))
            · simp [-List.map_take, -List.map_drop, -List.map_append, -List.map_replicate, -List.reduceReplicate, noPtrL, noPtr, noPtrL_bsl, noPtrL_map, sub]
            · rfl
            · exact hK
          apply adraw_merge' (by exact want_of (d := 46) rfl (by simp (disch := first | omega | decide) only [go_sem, f0, opn_cond, cellsOf_ch, cellsOf_lsa, chE_dec]; rfl))
          · intro hc K hK
            have hc2 := hc
            simp only [beq_iff_eq, decide_eq_true_eq, decide_eq_false_iff_not, Bool.or_eq_true, Bool.and_eq_true, Bool.or_eq_false_iff, Bool.and_eq_false_iff] at hc2
            simp (disch := first | omega | decide) only [go_sem, f0, opn_cond, hc, if_true, cellsOf_ch, cellsOf_lsa, chE_dec]
            exact hK
          iterate 1 (apply adraw_step rfl; · (intro K hK; simp (disch := first | omega | decide) only [go_sem, f0, cellsOf_ch, cellsOf_lsa, chE_dec]; exact hK))
          apply adraw_step0 rfl
          · intro K hK
            simp (disch := first | omega | decide) only [go_sem, f0, act_store_t ti74, List.map, cellsOf_ch, cellsOf_lsa, chE_dec]
            rw [mwp_store_c (by simp (disch := first | omega | decide) only [go_sem, f0, cellsOf_ch, cellsOf_lsa, chE_dec]; rfl) (by rfl) (by rfl) (by rfl) (by simp)]
            try simp only [setAt, cellsL, cellsOf_agg, cellsOf_base, List.map_cons, List.map_nil, List.set_cons_zero, List.set_cons_succ, Nat.reduceAdd, Nat.zero_add, hG]
            exact hK
          iterate 1 (apply adraw_step rfl; · (intro K hK; simp (disch := first | omega | decide) only [go_sem, f0, cellsOf_ch, cellsOf_lsa, chE_dec]; exact hK))
          refine adraw_nil (by kernel_rfl) ?_
          refine AW.ret ?_
          refine ⟨.inr rfl, ?_⟩
          refine leaves_mwp2 (rs := [.cell 2 74, .tmp 3]) rfl ?_
          simp (config := {failIfUnchanged := false}) [giveL, srcOne, rehome, freezeN, sub, ti74, upd, opn, aLoad, loadL, giveOne, reify, reifyL, readL, readOne, Mwp, M.bind, Mem.set, setAt, cellsL, hG, f0]
          all_goals (rw [rdC_0 hbt13 hbt15 hbt17 hbt19]; exact ⟨⟨rfl, rfl⟩, rfl, rfl⟩)

end Go.Vai.C
