import Derived.Test.YtblgcekomnnfmaagSlot7
namespace Go.Vai.S7
open Go.Proofs Go.Vai Go.Vai.G Go.Vai.L Go.Vai.O Go.Vai.R Go.Vai.U Go.Vai.Z
set_option linter.unusedSimpArgs false
set_option linter.unusedVariables false

set_option maxHeartbeats 4000000 in
set_option maxRecDepth 100000 in
theorem good_SlotLoads (na : Bool) (a : List PS) (ha0 : a.length ≤ 9223372036854775807) (pa : ∀ x ∈ a, x.2.length ≤ 9223372036854775807 ∧ (x.1 = true → x.2 = [])) (nb : Bool) (b : List PS) (hb0 : b.length ≤ 9223372036854775807) (pb : ∀ x ∈ b, x.2.length ≤ 9223372036854775807 ∧ (x.1 = true → x.2 = [])) : Good Try.prog 7 [(.sl 1 na (a.map pslice), false), (.sl 1 nb (b.map pslice), false)] [] [(.b true, false)] [] := by
  refine good_of_body4 72 Try.func7 rfl rfl rfl (by simp) (by simp) (by simp [noPtrL, noPtr]) (by rfl) ?_
  intro s m ha hr hv hG
  have f0 : s 0 = .v (.sl 1 na (a.map pslice)) := ha 0 _ rfl
  have f1 : s 1 = .v (.sl 1 nb (b.map pslice)) := ha 1 _ rfl
  clear ha
  refine AW.seq ?_
  refine AW.region (cfg := cfg) ?_
  iterate 1 (apply aops_step (by decide) rfl; · (intro K hK; simp (disch := first | omega | decide) only [go_sem, f0, f1, cellsOf_base]; exact hK _))
  refine aops_nil ?_
  refine AW.seq ?_
  refine AW.seq ?_
  refine AW.region (cfg := cfg) ?_
  iterate 1 (apply aops_step (by decide) rfl; · (intro K hK; simp (disch := first | omega | decide) only [go_sem, f0, f1, cellsOf_base]; exact hK _))
  apply aops_step (by decide) rfl
  · intro K hK
    simp (disch := first | omega | decide) only [go_sem, f0, f1, act_call, List.map, cellsOf_base]
    apply mwp_call_s rfl rfl rfl
    · intro Q hQ
      (simp (disch := first | omega | decide) only [go_sem, f0, f1, peekL, reifyL_nil, reifyL_cons, reify_v, cellsOf_base]; (exact hQ))
    · exact good_lightS na a ha0 pa
    · simp [-List.map_take, -List.map_drop, -List.map_append, -List.map_replicate, -List.reduceReplicate, noPtrL, noPtr, noPtrL_bsl, noPtrL_map, sub]
    · rfl
    · exact hK _
  iterate 2 (apply aops_step (by decide) rfl; · (intro K hK; simp (disch := first | omega | decide) only [go_sem, f0, f1, cellsOf_base]; exact hK _))
  apply aops_merge' (by decide) (by exact want_of (d := 16) rfl (by simp (disch := first | omega | decide) only [go_sem, f0, f1, opn_cond, cellsOf_base]; rfl))
  · intro hc K hK
    have hc2 := hc
    simp only [beq_iff_eq, decide_eq_true_eq, decide_eq_false_iff_not, Bool.or_eq_true, Bool.and_eq_true, Bool.or_eq_false_iff, Bool.and_eq_false_iff] at hc2
    simp (disch := first | omega | decide) only [go_sem, f0, f1, opn_cond, hc, if_true, cellsOf_base]
    exact hK _
  apply aops_merge' (by decide) (by exact want_of (d := 16) rfl (by simp (disch := first | omega | decide) only [go_sem, f0, f1, opn_cond, cellsOf_base]; rfl))
  · intro hc K hK
    have hc2 := hc
    simp only [beq_iff_eq, decide_eq_true_eq, decide_eq_false_iff_not, Bool.or_eq_true, Bool.and_eq_true, Bool.or_eq_false_iff, Bool.and_eq_false_iff] at hc2
    simp (disch := first | omega | decide) only [go_sem, f0, f1, opn_cond, hc, if_true, act_call, List.map, cellsOf_base]
    apply mwp_call_s rfl rfl rfl
    · intro Q hQ
      (simp (disch := first | omega | decide) only [go_sem, f0, f1, opn_cond, hc, if_true, peekL, reifyL_nil, reifyL_cons, reify_v, cellsOf_base]; (exact hQ))
    · exact good_lightS nb b hb0 pb
    · simp [-List.map_take, -List.map_drop, -List.map_append, -List.map_replicate, -List.reduceReplicate, noPtrL, noPtr, noPtrL_bsl, noPtrL_map, sub]
    · rfl
    · exact hK _
  apply aops_merge' (by decide) (by exact want_of (d := 16) rfl (by simp (disch := first | omega | decide) only [go_sem, f0, f1, opn_cond, cellsOf_base]; rfl))
  · intro hc K hK
    have hc2 := hc
    simp only [beq_iff_eq, decide_eq_true_eq, decide_eq_false_iff_not, Bool.or_eq_true, Bool.and_eq_true, Bool.or_eq_false_iff, Bool.and_eq_false_iff] at hc2
    simp (disch := first | omega | decide) only [go_sem, f0, f1, opn_cond, hc, if_true, cellsOf_base]
    exact hK _
  iterate 1 (apply aops_step (by decide) rfl; · (intro K hK; simp (disch := first | omega | decide) only [go_sem, f0, f1, cellsOf_base]; exact hK _))
  refine aops_nil ?_
  apply AW.cond
  · simp (disch := first | omega | decide) only [go_sem, f0, f1, cellsOf_base]; rfl
  case ht =>
    intro hb
    try simp only [Bool.or_eq_true, Bool.and_eq_true, Bool.or_eq_false_iff, Bool.and_eq_false_iff, decide_eq_true_eq, decide_eq_false_iff_not] at hb
    have hbt20 := hb
    refine AW.seq ?_
    refine AW.region (cfg := cfg) ?_
    apply aops_step (by decide) rfl
    · intro K hK
      simp (disch := first | omega | decide) only [go_sem, f0, f1, act_call, List.map, cellsOf_base]
      apply mwp_call_s rfl rfl rfl
      · intro Q hQ
        (simp (disch := first | omega | decide) only [go_sem, f0, f1, peekL, reifyL_nil, reifyL_cons, reify_v, cellsOf_base]; (exact hQ))
      · exact good_awake
      · simp [-List.map_take, -List.map_drop, -List.map_append, -List.map_replicate, -List.reduceReplicate, noPtrL, noPtr, noPtrL_bsl, noPtrL_map, sub]
      · rfl
      · exact hK _
    iterate 1 (apply aops_step (by decide) rfl; · (intro K hK; simp (disch := first | omega | decide) only [go_sem, f0, f1, cellsOf_base]; exact hK _))
    refine aops_nil ?_
    refine AW.ret ?_
    refine ⟨.inr rfl, ?_⟩
    apply Exists.intro
    refine leaves_tmp1 4 rfl ?_ (by rfl)
    simp (disch := first | omega | decide) only [go_sem, f0, f1, cellsOf_base]
    all_goals first | done | rfl | trace_state
  case hf =>
    intro hb
    try simp only [Bool.or_eq_true, Bool.and_eq_true, Bool.or_eq_false_iff, Bool.and_eq_false_iff, decide_eq_true_eq, decide_eq_false_iff_not] at hb
    have hbt20 := hb
    refine AW.skip ?_
    refine AW.seq ?_
    obtain ⟨li1, li2⟩ := light_3 hbt20
    obtain ⟨la1, la2⟩ := lightS_bd li1
    obtain ⟨lb1, lb2⟩ := lightS_bd li2
    have qa := light_sm la2 pa
    have qb := light_sm lb2 pb
    have sa := slotB_pg (l := a) (by omega)
    have sb := betB_pg (a := a) (b := b) (by omega) (by omega)
    refine AW.region (cfg := cfg) ?_
    iterate 1 (apply aops_step (by decide) rfl; · (intro K hK; simp (disch := first | omega | decide) only [go_sem, f0, f1, cellsOf_base]; exact hK _))
    apply aops_step (by decide) rfl
    · intro K hK
      simp (disch := first | omega | decide) only [go_sem, f0, f1, act_call, List.map, cellsOf_base]
      apply mwp_call_r rfl rfl rfl
      · intro Q hQ
        (simp (disch := first | omega | decide) only [go_sem, f0, f1, peekL, reifyL_nil, reifyL_cons, reify_v, cellsOf_base]; (exact hQ))
      · exact good_Load na a (by omega) qa
      · simp [-List.map_take, -List.map_drop, -List.map_append, -List.map_replicate, -List.reduceReplicate, noPtrL, noPtr, noPtrL_bsl, noPtrL_map, sub]
      · simp (disch := first | omega | decide) only [go_sem, f0, f1, cellsOf_base]
        exact hK _
    iterate 3 (apply aops_step (by decide) rfl; · (intro K hK; simp (disch := first | omega | decide) only [go_sem, f0, f1, cellsOf_base]; exact hK _))
    apply aops_step (by decide) rfl
    · intro K hK
      simp (disch := first | omega | decide) only [go_sem, f0, f1, act_alloc_t ti45, List.map, cellsOf_base]
      exact hK _
    apply aops_step0 rfl
    · intro K hK
      simp (disch := first | omega | decide) only [go_sem, f0, f1, act_store_t ti45, List.map, cellsOf_base]
      rw [mwp_store_c (by simp (disch := first | omega | decide) only [go_sem, f0, f1, cellsOf_base]; rfl) (by rfl) (by rfl) (by rfl) (by simp)]
      try simp only [setAt, cellsL, cellsOf_agg, cellsOf_base, List.map_cons, List.map_nil, List.set_cons_zero, List.set_cons_succ, Nat.reduceAdd, Nat.zero_add, hG]
      exact hK _
    iterate 1 (apply aops_step (by decide) rfl; · (intro K hK; simp (disch := first | omega | decide) only [go_sem, f0, f1, cellsOf_base]; exact hK _))
    refine aops_nil ?_
    refine AW.seq ?_
    refine AW.region (cfg := cfg) ?_
    iterate 2 (apply aops_step (by decide) rfl; · (intro K hK; simp (disch := first | omega | decide) only [go_sem, f0, f1, cellsOf_base]; exact hK _))
    apply aops_step (by decide) rfl
    · intro K hK
      simp (disch := first | omega | decide) only [go_sem, f0, f1, act_call, List.map, cellsOf_base]
      apply mwp_call_r rfl rfl rfl
      · intro Q hQ
        (simp (disch := first | omega | decide) only [go_sem, f0, f1, peekL, reifyL_nil, reifyL_cons, reify_v, cellsOf_base]; (exact hQ))
      · exact good_Better na a (by omega) qa nb b (by omega) qb
      · simp [-List.map_take, -List.map_drop, -List.map_append, -List.map_replicate, -List.reduceReplicate, noPtrL, noPtr, noPtrL_bsl, noPtrL_map, sub]
      · simp (disch := first | omega | decide) only [go_sem, f0, f1, cellsOf_base]
        exact hK _
    iterate 3 (apply aops_step (by decide) rfl; · (intro K hK; simp (disch := first | omega | decide) only [go_sem, f0, f1, cellsOf_base]; exact hK _))
    apply aops_step (by decide) rfl
    · intro K hK
      simp (disch := first | omega | decide) only [go_sem, f0, f1, act_alloc_t ti45, List.map, cellsOf_base]
      exact hK _
    apply aops_step0 rfl
    · intro K hK
      simp (disch := first | omega | decide) only [go_sem, f0, f1, act_store_t ti45, List.map, cellsOf_base]
      rw [mwp_store_c (by simp (disch := first | omega | decide) only [go_sem, f0, f1, cellsOf_base]; rfl) (by rfl) (by rfl) (by rfl) (by simp)]
      try simp only [setAt, cellsL, cellsOf_agg, cellsOf_base, List.map_cons, List.map_nil, List.set_cons_zero, List.set_cons_succ, Nat.reduceAdd, Nat.zero_add, hG]
      exact hK _
    iterate 1 (apply aops_step (by decide) rfl; · (intro K hK; simp (disch := first | omega | decide) only [go_sem, f0, f1, cellsOf_base]; exact hK _))
    refine aops_nil ?_
    refine AW.seq ?_
    refine AW.region (cfg := cfg) ?_
    iterate 1 (apply aops_step (by decide) rfl; · (intro K hK; simp (disch := first | omega | decide) only [go_sem, f0, f1, cellsOf_base]; exact hK _))
    apply aops_step (by decide) rfl
    · intro K hK
      simp (disch := first | omega | decide) only [go_sem, f0, f1, act_call, List.map, cellsOf_base]
      apply mwp_call_r rfl rfl rfl
      · intro Q hQ
        (simp (disch := first | omega | decide) only [go_sem, f0, f1, peekL, reifyL_nil, reifyL_cons, reify_v, cellsOf_base]; (exact hQ))
      · exact good_refLoad na a (by omega) qa
      · simp [-List.map_take, -List.map_drop, -List.map_append, -List.map_replicate, -List.reduceReplicate, noPtrL, noPtr, noPtrL_bsl, noPtrL_map, sub]
      · simp (disch := first | omega | decide) only [go_sem, f0, f1, cellsOf_base]
        exact hK _
    iterate 3 (apply aops_step (by decide) rfl; · (intro K hK; simp (disch := first | omega | decide) only [go_sem, f0, f1, cellsOf_base]; exact hK _))
    apply aops_step (by decide) rfl
    · intro K hK
      simp (disch := first | omega | decide) only [go_sem, f0, f1, act_alloc_t ti45, List.map, cellsOf_base]
      exact hK _
    apply aops_step0 rfl
    · intro K hK
      simp (disch := first | omega | decide) only [go_sem, f0, f1, act_store_t ti45, List.map, cellsOf_base]
      rw [mwp_store_c (by simp (disch := first | omega | decide) only [go_sem, f0, f1, cellsOf_base]; rfl) (by rfl) (by rfl) (by rfl) (by simp)]
      try simp only [setAt, cellsL, cellsOf_agg, cellsOf_base, List.map_cons, List.map_nil, List.set_cons_zero, List.set_cons_succ, Nat.reduceAdd, Nat.zero_add, hG]
      exact hK _
    iterate 1 (apply aops_step (by decide) rfl; · (intro K hK; simp (disch := first | omega | decide) only [go_sem, f0, f1, cellsOf_base]; exact hK _))
    refine aops_nil ?_
    refine AW.seq ?_
    refine AW.region (cfg := cfg) ?_
    iterate 2 (apply aops_step (by decide) rfl; · (intro K hK; simp (disch := first | omega | decide) only [go_sem, f0, f1, cellsOf_base]; exact hK _))
    apply aops_step (by decide) rfl
    · intro K hK
      simp (disch := first | omega | decide) only [go_sem, f0, f1, act_call, List.map, cellsOf_base]
      apply mwp_call_r rfl rfl rfl
      · intro Q hQ
        (simp (disch := first | omega | decide) only [go_sem, f0, f1, peekL, reifyL_nil, reifyL_cons, reify_v, cellsOf_base]; (exact hQ))
      · exact good_refBetter na a (by omega) qa nb b (by omega) qb
      · simp [-List.map_take, -List.map_drop, -List.map_append, -List.map_replicate, -List.reduceReplicate, noPtrL, noPtr, noPtrL_bsl, noPtrL_map, sub]
      · simp (disch := first | omega | decide) only [go_sem, f0, f1, cellsOf_base]
        exact hK _
    iterate 3 (apply aops_step (by decide) rfl; · (intro K hK; simp (disch := first | omega | decide) only [go_sem, f0, f1, cellsOf_base]; exact hK _))
    apply aops_step (by decide) rfl
    · intro K hK
      simp (disch := first | omega | decide) only [go_sem, f0, f1, act_alloc_t ti45, List.map, cellsOf_base]
      exact hK _
    apply aops_step0 rfl
    · intro K hK
      simp (disch := first | omega | decide) only [go_sem, f0, f1, act_store_t ti45, List.map, cellsOf_base]
      rw [mwp_store_c (by simp (disch := first | omega | decide) only [go_sem, f0, f1, cellsOf_base]; rfl) (by rfl) (by rfl) (by rfl) (by simp)]
      try simp only [setAt, cellsL, cellsOf_agg, cellsOf_base, List.map_cons, List.map_nil, List.set_cons_zero, List.set_cons_succ, Nat.reduceAdd, Nat.zero_add, hG]
      exact hK _
    iterate 1 (apply aops_step (by decide) rfl; · (intro K hK; simp (disch := first | omega | decide) only [go_sem, f0, f1, cellsOf_base]; exact hK _))
    refine aops_nil ?_
    refine AW.seq ?_
    refine AW.region (cfg := cfg) ?_
    iterate 9 (apply aops_step (by decide) rfl; · (intro K hK; simp (disch := first | omega | decide) only [go_sem, f0, f1, bin_eql_b u4, cellsOf_base]; exact hK _))
    apply aops_step (by decide) rfl
    · intro K hK
      simp (disch := first | omega | decide) only [go_sem, f0, f1, act_load_t ti45, List.map, cellsOf_base]
      rw [mwp_load_bs (by simp (disch := first | omega | decide) only [go_sem, f0, f1, cellsOf_base]; rfl) (by simp [setAt])]
      exact hK _
    apply aops_step (by decide) rfl
    · intro K hK
      simp (disch := first | omega | decide) only [go_sem, f0, f1, act_load_t ti45, List.map, cellsOf_base]
      rw [mwp_load_bs (by simp (disch := first | omega | decide) only [go_sem, f0, f1, cellsOf_base]; rfl) (by simp [setAt])]
      exact hK _
    apply aops_step (by decide) rfl
    · intro K hK
      simp (disch := first | omega | decide) only [go_sem, f0, f1, act_call, List.map, cellsOf_base]
      apply mwp_call_s rfl rfl rfl
      · intro Q hQ
        (simp (disch := first | omega | decide) only [go_sem, f0, f1, peekL, reifyL_nil, reifyL_cons, reify_v, cellsOf_base]; (exact hQ))
      · exact good_SameB (slotG (pagesOf okS valS a)) (slotG (pagesOf okS valS a)) (slotB (pagesOf okS valS a)).isEmpty (!slotOK (pagesOf okS valS a)) (slotB (pagesOf okS valS a)) (slotB (pagesOf okS valS a)) (by omega) (by omega)
      · simp [-List.map_take, -List.map_drop, -List.map_append, -List.map_replicate, -List.reduceReplicate, noPtrL, noPtr, noPtrL_bsl, noPtrL_map, sub]
      · rfl
      · exact hK _
    iterate 2 (apply aops_step (by decide) rfl; · (intro K hK; simp (disch := first | omega | decide) only [go_sem, f0, f1, cellsOf_base]; exact hK _))
    apply aops_step (by decide) rfl
    · intro K hK
      simp (disch := first | omega | decide) only [go_sem, f0, f1, act_load_t ti45, List.map, cellsOf_base]
      rw [mwp_load_bs (by simp (disch := first | omega | decide) only [go_sem, f0, f1, cellsOf_base]; rfl) (by simp [setAt])]
      exact hK _
    apply aops_step (by decide) rfl
    · intro K hK
      simp (disch := first | omega | decide) only [go_sem, f0, f1, act_load_t ti45, List.map, cellsOf_base]
      rw [mwp_load_bs (by simp (disch := first | omega | decide) only [go_sem, f0, f1, cellsOf_base]; rfl) (by simp [setAt])]
      exact hK _
    apply aops_step (by decide) rfl
    · intro K hK
      simp (disch := first | omega | decide) only [go_sem, f0, f1, act_call, List.map, cellsOf_base]
      apply mwp_call_s rfl rfl rfl
      · intro Q hQ
        (simp (disch := first | omega | decide) only [go_sem, f0, f1, peekL, reifyL_nil, reifyL_cons, reify_v, cellsOf_base]; (exact hQ))
      · exact good_SameB (betG (pagesOf okS valS a) (pagesOf okS valS b)) (betG (pagesOf okS valS a) (pagesOf okS valS b)) (betB (pagesOf okS valS a) (pagesOf okS valS b)).isEmpty (!betOK (pagesOf okS valS a) (pagesOf okS valS b)) (betB (pagesOf okS valS a) (pagesOf okS valS b)) (betB (pagesOf okS valS a) (pagesOf okS valS b)) (by omega) (by omega)
      · simp [-List.map_take, -List.map_drop, -List.map_append, -List.map_replicate, -List.reduceReplicate, noPtrL, noPtr, noPtrL_bsl, noPtrL_map, sub]
      · rfl
      · exact hK _
    iterate 3 (apply aops_step (by decide) rfl; · (intro K hK; simp (disch := first | omega | decide) only [go_sem, f0, f1, cellsOf_base]; exact hK _))
    apply aops_step (by decide) rfl
    · intro K hK
      simp (disch := first | omega | decide) only [go_sem, f0, f1, act_call, List.map, cellsOf_base]
      apply mwp_call_s rfl rfl rfl
      · intro Q hQ
        (simp (disch := first | omega | decide) only [go_sem, f0, f1, peekL, reifyL_nil, reifyL_cons, reify_v, cellsOf_base]; (exact hQ))
      · exact good_Mark na a (by omega) qa
      · simp [-List.map_take, -List.map_drop, -List.map_append, -List.map_replicate, -List.reduceReplicate, noPtrL, noPtr, noPtrL_bsl, noPtrL_map, sub]
      · rfl
      · exact hK _
    iterate 1 (apply aops_step (by decide) rfl; · (intro K hK; simp (disch := first | omega | decide) only [go_sem, f0, f1, cellsOf_base]; exact hK _))
    apply aops_step (by decide) rfl
    · intro K hK
      simp (disch := first | omega | decide) only [go_sem, f0, f1, act_call, List.map, cellsOf_base]
      apply mwp_call_s rfl rfl rfl
      · intro Q hQ
        (simp (disch := first | omega | decide) only [go_sem, f0, f1, peekL, reifyL_nil, reifyL_cons, reify_v, cellsOf_base]; (exact hQ))
      · exact good_refMark na a (by omega) qa
      · simp [-List.map_take, -List.map_drop, -List.map_append, -List.map_replicate, -List.reduceReplicate, noPtrL, noPtr, noPtrL_bsl, noPtrL_map, sub]
      · rfl
      · exact hK _
    iterate 3 (apply aops_step (by decide) rfl; · (intro K hK; simp (disch := first | omega | decide) only [go_sem, f0, f1, cellsOf_base]; exact hK _))
    apply aops_step (by decide) rfl
    · intro K hK
      simp (disch := first | omega | decide) only [go_sem, f0, f1, act_call, List.map, cellsOf_base]
      apply mwp_call_s rfl rfl rfl
      · intro Q hQ
        (simp (disch := first | omega | decide) only [go_sem, f0, f1, peekL, reifyL_nil, reifyL_cons, reify_v, cellsOf_base]; (exact hQ))
      · exact good_awake
      · simp [-List.map_take, -List.map_drop, -List.map_append, -List.map_replicate, -List.reduceReplicate, noPtrL, noPtr, noPtrL_bsl, noPtrL_map, sub]
      · rfl
      · exact hK _
    iterate 2 (apply aops_step (by decide) rfl; · (intro K hK; simp (disch := first | omega | decide) only [go_sem, f0, f1, cellsOf_base]; exact hK _))
    refine aops_nil ?_
    refine AW.ret ?_
    refine ⟨.inr rfl, ?_⟩
    apply Exists.intro
    refine leaves_tmp1 4 rfl ?_ (by rfl)
    simp (disch := first | omega | decide) only [go_sem, f0, f1, cellsOf_base]
    all_goals first | done | rfl | trace_state

end Go.Vai.S7
