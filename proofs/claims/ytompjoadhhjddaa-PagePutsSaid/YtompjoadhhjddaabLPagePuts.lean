import Derived.Test.YtompjoadhhjddaabPage7
namespace Go.Vai.G
open Go.Proofs Go.Vai Go.Vai.L Go.Vai.O Go.Vai.U Go.Vai.Z
set_option linter.unusedSimpArgs false
set_option linter.unusedVariables false

set_option maxHeartbeats 4000000 in
set_option maxRecDepth 100000 in
theorem good_PagePuts (p : Page) (hp : p.b.length ≤ 9223372036854775807)(q : Page) (hq : q.b.length ≤ 9223372036854775807) : Good Try.prog 14 [(pageA p, false), (pageA q, false)] [] [(.b true, false)] [] := by
  refine good_of_body4 76 Try.func14 rfl rfl rfl (by simp) (by simp) (by simp [noPtrL, noPtr]) (by rfl) ?_
  intro s m ha hr hv hG
  have f0 : s 0 = .v (.agg [i64 p.kind, i64 p.gen, i64 p.mark, i64 p.idx, i64 p.part, i64 p.parts, .sl 1 p.nil (bsl p.b)]) := ha 0 _ rfl
  have f1 : s 1 = .v (.agg [i64 q.kind, i64 q.gen, i64 q.mark, i64 q.idx, i64 q.part, i64 q.parts, .sl 1 q.nil (bsl q.b)]) := ha 1 _ rfl
  clear ha
  refine AW.seq ?_
  refine AW.region (cfg := cfg) ?_
  apply aops_step (by decide) rfl
  · intro K hK
    simp (disch := first | omega | decide) only [go_sem, f0, f1, act_box_t ti47, List.map, cellsOf_page, pageEq_refl]
    rw [settleL_vish _ _ (by rfl)]
    simp (disch := first | omega | decide) only [go_sem, f0, f1, cellsL, List.map, List.length_cons, List.length_nil, Nat.reduceAdd, if_true, cellsOf_page, pageEq_refl]
    exact hK _
  apply aops_step (by decide) rfl
  · intro K hK
    simp (disch := first | omega | decide) only [go_sem, f0, f1, act_box_t ti47, List.map, cellsOf_page, pageEq_refl]
    rw [settleL_vish _ _ (by rfl)]
    simp (disch := first | omega | decide) only [go_sem, f0, f1, cellsL, List.map, List.length_cons, List.length_nil, Nat.reduceAdd, if_true, cellsOf_page, pageEq_refl]
    exact hK _
  iterate 1 (apply aops_step (by decide) rfl; · (intro K hK; simp (disch := first | omega | decide) only [go_sem, f0, f1, cellsOf_page, pageEq_refl]; exact hK _))
  refine aops_nil ?_
  refine AW.seq ?_
  refine AW.seq ?_
  refine AW.region (cfg := cfg) ?_
  apply aops_step (by decide) rfl
  · intro K hK
    simp (disch := first | omega | decide) only [go_sem, f0, f1, act_fieldAddr_t fo47_6, List.map, cellsOf_page, pageEq_refl]
    rw [mwp_fieldAddr_b (by simp (disch := first | omega | decide) only [go_sem, f0, f1, cellsOf_page, pageEq_refl]; rfl)]
    exact hK _
  apply aops_step (by decide) rfl
  · intro K hK
    simp (disch := first | omega | decide) only [go_sem, f0, f1, act_load_t ti25, List.map, cellsOf_page, pageEq_refl]
    rw [mwp_load_b1 (by simp (disch := first | omega | decide) only [go_sem, f0, f1, cellsOf_page, pageEq_refl]; rfl) (by rfl)]
    exact hK _
  iterate 3 (apply aops_step (by decide) rfl; · (intro K hK; simp (disch := first | omega | decide) only [go_sem, f0, f1, List.map, List.length_map, aops_len u25, cellsOf_page, pageEq_refl]; exact hK _))
  apply aops_merge' (by decide) (by exact want_of (d := 13) rfl (by simp (disch := first | omega | decide) only [go_sem, f0, f1, opn_cond, cellsOf_page, pageEq_refl]; rfl))
  · intro hc K hK
    have hc2 := hc
    simp only [beq_iff_eq, decide_eq_true_eq, decide_eq_false_iff_not, Bool.or_eq_true, Bool.and_eq_true, Bool.or_eq_false_iff, Bool.and_eq_false_iff] at hc2
    simp (disch := first | omega | decide) only [go_sem, f0, f1, opn_cond, hc, if_true, act_fieldAddr_t fo47_6, cellsOf_page, pageEq_refl]
    rw [mwp_fieldAddr_b (by simp (disch := first | omega | decide) only [go_sem, f0, f1, opn_cond, hc, if_true, cellsOf_page, pageEq_refl]; rfl)]
    exact hK _
  apply aops_merge' (by decide) (by exact want_of (d := 13) rfl (by simp (disch := first | omega | decide) only [go_sem, f0, f1, opn_cond, cellsOf_page, pageEq_refl]; rfl))
  · intro hc K hK
    have hc2 := hc
    simp only [beq_iff_eq, decide_eq_true_eq, decide_eq_false_iff_not, Bool.or_eq_true, Bool.and_eq_true, Bool.or_eq_false_iff, Bool.and_eq_false_iff] at hc2
    simp (disch := first | omega | decide) only [go_sem, f0, f1, opn_cond, hc, if_true, act_load_t ti25, cellsOf_page, pageEq_refl]
    rw [mwp_load_b1 (by simp (disch := first | omega | decide) only [go_sem, f0, f1, opn_cond, hc, if_true, cellsOf_page, pageEq_refl]; rfl) (by rfl)]
    exact hK _
  apply aops_merge' (by decide) (by exact want_of (d := 13) rfl (by simp (disch := first | omega | decide) only [go_sem, f0, f1, opn_cond, cellsOf_page, pageEq_refl]; rfl))
  · intro hc K hK
    have hc2 := hc
    simp only [beq_iff_eq, decide_eq_true_eq, decide_eq_false_iff_not, Bool.or_eq_true, Bool.and_eq_true, Bool.or_eq_false_iff, Bool.and_eq_false_iff] at hc2
    simp (disch := first | omega | decide) only [go_sem, f0, f1, opn_cond, hc, if_true, List.map, List.length_map, aops_len u25, cellsOf_page, pageEq_refl]
    exact hK _
  apply aops_merge' (by decide) (by exact want_of (d := 13) rfl (by simp (disch := first | omega | decide) only [go_sem, f0, f1, opn_cond, cellsOf_page, pageEq_refl]; rfl))
  · intro hc K hK
    have hc2 := hc
    simp only [beq_iff_eq, decide_eq_true_eq, decide_eq_false_iff_not, Bool.or_eq_true, Bool.and_eq_true, Bool.or_eq_false_iff, Bool.and_eq_false_iff] at hc2
    simp (disch := first | omega | decide) only [go_sem, f0, f1, opn_cond, hc, if_true, cellsOf_page, pageEq_refl]
    exact hK _
  iterate 1 (apply aops_step (by decide) rfl; · (intro K hK; simp (disch := first | omega | decide) only [go_sem, f0, f1, cellsOf_page, pageEq_refl]; exact hK _))
  refine aops_nil ?_
  apply AW.cond
  · simp (disch := first | omega | decide) only [go_sem, f0, f1, cellsOf_page, pageEq_refl]; rfl
  case ht =>
    intro hb
    try simp only [Bool.or_eq_true, Bool.and_eq_true, Bool.or_eq_false_iff, Bool.and_eq_false_iff, decide_eq_true_eq, decide_eq_false_iff_not] at hb
    have hbt18 := hb
    refine AW.seq ?_
    refine AW.region (cfg := cfg) ?_
    apply aops_step (by decide) rfl
    · intro K hK
      simp (disch := first | omega | decide) only [go_sem, f0, f1, act_call, List.map, cellsOf_page, pageEq_refl]
      apply mwp_call_s rfl rfl rfl
      · intro Q hQ
        (simp (disch := first | omega | decide) only [go_sem, f0, f1, peekL, reifyL_nil, reifyL_cons, reify_v, cellsOf_page, pageEq_refl]; (exact hQ))
      · exact G.good_awake
      · simp [-List.map_take, -List.map_drop, -List.map_append, -List.map_replicate, -List.reduceReplicate, noPtrL, noPtr, noPtrL_bsl, noPtrL_map, sub]
      · rfl
      · exact hK _
    iterate 1 (apply aops_step (by decide) rfl; · (intro K hK; simp (disch := first | omega | decide) only [go_sem, f0, f1, cellsOf_page, pageEq_refl]; exact hK _))
    refine aops_nil ?_
    refine AW.ret ?_
    refine ⟨.inr rfl, ?_⟩
    apply Exists.intro
    refine leaves_tmp1 4 rfl ?_ (by rfl)
    simp (disch := first | omega | decide) only [go_sem, f0, f1, cellsOf_page, pageEq_refl]
    all_goals first | done | rfl | trace_state
  case hf =>
    intro hb
    try simp only [Bool.or_eq_true, Bool.and_eq_true, Bool.or_eq_false_iff, Bool.and_eq_false_iff, decide_eq_true_eq, decide_eq_false_iff_not] at hb
    have hbt18 := hb
    refine AW.skip ?_
    refine AW.seq ?_
    by_cases hsp : pageOK p = true
    · have hd := decide_eq_true hsp
      obtain ⟨e4, e5⟩ := pg_ok hsp
      obtain ⟨pb1, pb2, pb3⟩ := page_back hsp
      have pl := pgPut_len hsp
      have pe := pageEq_nil p false
      have bd := (page_bd hsp).2.2.2.2.2.2
      refine AW.region (cfg := cfg) ?_
      apply aops_step (by decide) rfl
      · intro K hK
        simp (disch := first | omega | decide) only [go_sem, f0, f1, hd, hsp, e5, pb2, pb3, pe, act_load_t ti47, List.map, cellsOf_page, pageEq_refl]
        rw [mwp_load_bs (by simp (disch := first | omega | decide) only [go_sem, f0, f1, hd, hsp, e5, pb2, pb3, pe, cellsOf_page, pageEq_refl]; rfl) (by simp [setAt])]
        exact hK _
      apply aops_step (by decide) rfl
      · intro K hK
        simp (disch := first | omega | decide) only [go_sem, f0, f1, hd, hsp, e5, pb2, pb3, pe, act_call, List.map, cellsOf_page, pageEq_refl]
        apply mwp_call_r rfl rfl rfl
        · intro Q hQ
          (simp (disch := first | omega | decide) only [go_sem, f0, f1, hd, hsp, e5, pb2, pb3, pe, peekL, reifyL_nil, reifyL_cons, reify_v, cellsOf_page, pageEq_refl]; (exact hQ))
        · exact good_PutP p (by omega)
        · simp [-List.map_take, -List.map_drop, -List.map_append, -List.map_replicate, -List.reduceReplicate, noPtrL, noPtr, noPtrL_bsl, noPtrL_map, sub]
        · rw [resOf_own2 (by (simp (disch := decide) only [mset_ne, hr]; done))]
          exact hK _
      iterate 3 (apply aops_step (by decide) rfl; · (intro K hK; simp (disch := first | omega | decide) only [go_sem, f0, f1, hd, hsp, e5, pb2, pb3, pe, cellsOf_page, pageEq_refl]; exact hK _))
      apply aops_step (by decide) rfl
      · intro K hK
        simp (disch := first | omega | decide) only [go_sem, f0, f1, hd, hsp, e5, pb2, pb3, pe, cellsOf_page, pageEq_refl]
        rw [asg_tmp (by simp (disch := first | omega | decide) only [go_sem, f0, f1, hd, hsp, e5, pb2, pb3, pe, cellsOf_page, pageEq_refl]; rfl)]
        exact hK _
      iterate 1 (apply aops_step (by decide) rfl; · (intro K hK; simp (disch := first | omega | decide) only [go_sem, f0, f1, hd, hsp, e5, pb2, pb3, pe, cellsOf_page, pageEq_refl]; exact hK _))
      refine aops_nil ?_
      refine AW.seq ?_
      refine AW.seq ?_
      refine AW.draw (cfg := cfg) (by kernel_rfl) (by kernel_rfl) (by kernel_rfl) ?_
      apply adraw_step rfl
      · intro K hK
        simp (disch := first | omega | decide) only [go_sem, f0, f1, hd, hsp, e5, pb2, pb3, pe, act_load_t ti47, List.map, cellsOf_page, pageEq_refl]
        rw [mwp_load_bs (by simp (disch := first | omega | decide) only [go_sem, f0, f1, hd, hsp, e5, pb2, pb3, pe, cellsOf_page, pageEq_refl]; rfl) (by simp [setAt])]
        exact hK
      apply adraw_step rfl
      · intro K hK
        simp (disch := first | omega | decide) only [go_sem, f0, f1, hd, hsp, e5, pb2, pb3, pe, act_load_t ti47, List.map, cellsOf_page, pageEq_refl]
        rw [mwp_load_bs (by simp (disch := first | omega | decide) only [go_sem, f0, f1, hd, hsp, e5, pb2, pb3, pe, cellsOf_page, pageEq_refl]; rfl) (by simp [setAt])]
        exact hK
      apply adraw_step rfl
      · intro K hK
        simp (disch := first | omega | decide) only [go_sem, f0, f1, hd, hsp, e5, pb2, pb3, pe, act_call, List.map, cellsOf_page, pageEq_refl]
        apply mwp_call_s rfl rfl rfl
        · intro Q hQ
          (simp (disch := first | omega | decide) only [go_sem, f0, f1, hd, hsp, e5, pb2, pb3, pe, peekL, reifyL_nil, reifyL_cons, reify_v, cellsOf_page, pageEq_refl]; (exact hQ))
        · exact good_SameP p (by omega) q (by omega)
        · simp [-List.map_take, -List.map_drop, -List.map_append, -List.map_replicate, -List.reduceReplicate, noPtrL, noPtr, noPtrL_bsl, noPtrL_map, sub]
        · rfl
        · exact hK
      apply adraw_step rfl
      · intro K hK
        simp (disch := first | omega | decide) only [go_sem, f0, f1, hd, hsp, e5, pb2, pb3, pe, act_load_t ti47, List.map, cellsOf_page, pageEq_refl]
        rw [mwp_load_bs (by simp (disch := first | omega | decide) only [go_sem, f0, f1, hd, hsp, e5, pb2, pb3, pe, cellsOf_page, pageEq_refl]; rfl) (by simp [setAt])]
        exact hK
      apply adraw_step rfl
      · intro K hK
        simp (disch := first | omega | decide) only [go_sem, f0, f1, hd, hsp, e5, pb2, pb3, pe, act_load_t ti47, List.map, cellsOf_page, pageEq_refl]
        rw [mwp_load_bs (by simp (disch := first | omega | decide) only [go_sem, f0, f1, hd, hsp, e5, pb2, pb3, pe, cellsOf_page, pageEq_refl]; rfl) (by simp [setAt])]
        exact hK
      apply adraw_step rfl
      · intro K hK
        simp (disch := first | omega | decide) only [go_sem, f0, f1, hd, hsp, e5, pb2, pb3, pe, act_call, List.map, cellsOf_page, pageEq_refl]
        apply mwp_call_s rfl rfl rfl
        · intro Q hQ
          (simp (disch := first | omega | decide) only [go_sem, f0, f1, hd, hsp, e5, pb2, pb3, pe, peekL, reifyL_nil, reifyL_cons, reify_v, cellsOf_page, pageEq_refl]; (exact hQ))
        · exact good_refSameP p (by omega) q (by omega)
        · simp [-List.map_take, -List.map_drop, -List.map_append, -List.map_replicate, -List.reduceReplicate, noPtrL, noPtr, noPtrL_bsl, noPtrL_map, sub]
        · rfl
        · exact hK
      iterate 2 (apply adraw_step rfl; · (intro K hK; simp (disch := first | omega | decide) only [go_sem, f0, f1, hd, hsp, e5, pb2, pb3, pe, bin_neq_b u4, cellsOf_page, pageEq_refl]; exact hK))
      apply adraw_step rfl
      · intro K hK
        simp (disch := first | omega | decide) only [go_sem, f0, f1, hd, hsp, e5, pb2, pb3, pe, act_load_t ti47, List.map, cellsOf_page, pageEq_refl]
        rw [mwp_load_bs (by simp (disch := first | omega | decide) only [go_sem, f0, f1, hd, hsp, e5, pb2, pb3, pe, cellsOf_page, pageEq_refl]; rfl) (by simp [setAt])]
        exact hK
      apply adraw_step rfl
      · intro K hK
        simp (disch := first | omega | decide) only [go_sem, f0, f1, hd, hsp, e5, pb2, pb3, pe, act_load_t ti47, List.map, cellsOf_page, pageEq_refl]
        rw [mwp_load_bs (by simp (disch := first | omega | decide) only [go_sem, f0, f1, hd, hsp, e5, pb2, pb3, pe, cellsOf_page, pageEq_refl]; rfl) (by simp [setAt])]
        exact hK
      apply adraw_step rfl
      · intro K hK
        simp (disch := first | omega | decide) only [go_sem, f0, f1, hd, hsp, e5, pb2, pb3, pe, act_call, List.map, cellsOf_page, pageEq_refl]
        apply mwp_call_s rfl rfl rfl
        · intro Q hQ
          (simp (disch := first | omega | decide) only [go_sem, f0, f1, hd, hsp, e5, pb2, pb3, pe, peekL, reifyL_nil, reifyL_cons, reify_v, cellsOf_page, pageEq_refl]; (exact hQ))
        · exact good_SameP p (by omega) p (by omega)
        · simp [-List.map_take, -List.map_drop, -List.map_append, -List.map_replicate, -List.reduceReplicate, noPtrL, noPtr, noPtrL_bsl, noPtrL_map, sub]
        · rfl
        · exact hK
      iterate 2 (apply adraw_step rfl; · (intro K hK; simp (disch := first | omega | decide) only [go_sem, f0, f1, hd, hsp, e5, pb2, pb3, pe, cellsOf_page, pageEq_refl]; exact hK))
      refine adraw_nil (by kernel_rfl) ?_
      apply AW.cond
      · simp (disch := first | omega | decide) only [go_sem, f0, f1, hd, hsp, e5, pb2, pb3, pe, cellsOf_page, pageEq_refl]; rfl
      case ht => intro hb; simp at hb
      case hf =>
      intro hb
      have hbt37 := hb
      refine AW.skip ?_
      refine AW.seq ?_
      refine AW.seq ?_
      refine AW.region (cfg := cfg) ?_
      apply aops_step (by decide) rfl
      · intro K hK
        simp (disch := first | omega | decide) only [go_sem, f0, f1, hd, hsp, e5, pb2, pb3, pe, act_load_t ti47, List.map, cellsOf_page, pageEq_refl]
        rw [mwp_load_bs (by simp (disch := first | omega | decide) only [go_sem, f0, f1, hd, hsp, e5, pb2, pb3, pe, cellsOf_page, pageEq_refl]; rfl) (by simp [setAt])]
        exact hK _
      apply aops_step (by decide) rfl
      · intro K hK
        simp (disch := first | omega | decide) only [go_sem, f0, f1, hd, hsp, e5, pb2, pb3, pe, act_call, List.map, cellsOf_page, pageEq_refl]
        apply mwp_call_s rfl rfl rfl
        · intro Q hQ
          (simp (disch := first | omega | decide) only [go_sem, f0, f1, hd, hsp, e5, pb2, pb3, pe, peekL, reifyL_nil, reifyL_cons, reify_v, cellsOf_page, pageEq_refl]; (exact hQ))
        · exact good_refMayP p (by omega)
        · simp [-List.map_take, -List.map_drop, -List.map_append, -List.map_replicate, -List.reduceReplicate, noPtrL, noPtr, noPtrL_bsl, noPtrL_map, sub]
        · rfl
        · exact hK _
      iterate 1 (apply aops_step (by decide) rfl; · (intro K hK; simp (disch := first | omega | decide) only [go_sem, f0, f1, hd, hsp, e5, pb2, pb3, pe, cellsOf_page, pageEq_refl]; exact hK _))
      refine aops_nil ?_
      apply AW.cond
      · simp (disch := first | omega | decide) only [go_sem, f0, f1, hd, hsp, e5, pb2, pb3, pe, cellsOf_page, pageEq_refl]; rfl
      case ht => intro hb; simp at hb
      case hf =>
      intro hb
      have hbt40 := hb
      refine AW.skip ?_
      refine AW.seq ?_
      refine AW.region (cfg := cfg) ?_
      iterate 1 (apply aops_step (by decide) rfl; · (intro K hK; simp (disch := first | omega | decide) only [go_sem, f0, f1, hd, hsp, e5, pb2, pb3, pe, cellsOf_page, pageEq_refl]; exact hK _))
      apply aops_step (by decide) rfl
      · intro K hK
        simp (disch := first | omega | decide) only [go_sem, f0, f1, hd, hsp, e5, pb2, pb3, pe, act_call, List.map, cellsOf_page, pageEq_refl]
        apply mwp_call_r rfl rfl rfl
        · intro Q hQ
          (simp (disch := first | omega | decide) only [go_sem, f0, f1, hd, hsp, e5, pb2, pb3, pe, peekL, reifyL_nil, reifyL_cons, reify_v, cellsOf_page, pageEq_refl]; ((((rw [mwp_reify_own (by simp (disch := first | omega | decide) only [go_sem, f0, f1, hd, hsp, e5, pb2, pb3, pe, peekL, reifyL_nil, reifyL_cons, reify_v, cellsOf_page, pageEq_refl]; rfl)]); (try rw [sub_full (by rfl)])); exact hQ)))
        · exact good_GetP false (pgPut p) (by omega) (by simp)
        · simp [-List.map_take, -List.map_drop, -List.map_append, -List.map_replicate, -List.reduceReplicate, noPtrL, noPtr, noPtrL_bsl, noPtrL_map, sub]
        · simp (disch := first | omega | decide) only [go_sem, f0, f1, hd, hsp, e5, pb2, pb3, pe, cellsOf_page, pageEq_refl]
          exact hK _
      iterate 3 (apply aops_step (by decide) rfl; · (intro K hK; simp (disch := first | omega | decide) only [go_sem, f0, f1, hd, hsp, e5, pb2, pb3, pe, cellsOf_page, pageEq_refl]; exact hK _))
      apply aops_step (by decide) rfl
      · intro K hK
        simp (disch := first | omega | decide) only [go_sem, f0, f1, hd, hsp, e5, pb2, pb3, pe, act_alloc_t ti47, List.map, cellsOf_page, pageEq_refl]
        exact hK _
      apply aops_step0 rfl
      · intro K hK
        simp (disch := first | omega | decide) only [go_sem, f0, f1, hd, hsp, e5, pb2, pb3, pe, act_store_t ti47, List.map, cellsOf_page, pageEq_refl]
        rw [mwp_store_c (by simp (disch := first | omega | decide) only [go_sem, f0, f1, hd, hsp, e5, pb2, pb3, pe, cellsOf_page, pageEq_refl]; rfl) (by rfl) (by rfl) (by rfl) (by simp)]
        try simp only [setAt, cellsL, cellsOf_agg, cellsOf_base, List.map_cons, List.map_nil, List.set_cons_zero, List.set_cons_succ, Nat.reduceAdd, Nat.zero_add, hG]
        exact hK _
      iterate 1 (apply aops_step (by decide) rfl; · (intro K hK; simp (disch := first | omega | decide) only [go_sem, f0, f1, hd, hsp, e5, pb2, pb3, pe, cellsOf_page, pageEq_refl]; exact hK _))
      refine aops_nil ?_
      refine AW.seq ?_
      refine AW.region (cfg := cfg) ?_
      iterate 4 (apply aops_step (by decide) rfl; · (intro K hK; simp (disch := first | omega | decide) only [go_sem, f0, f1, hd, hsp, e5, pb2, pb3, pe, cellsOf_page, pageEq_refl]; exact hK _))
      apply aops_step (by decide) rfl
      · intro K hK
        simp (disch := first | omega | decide) only [go_sem, f0, f1, hd, hsp, e5, pb2, pb3, pe, act_load_t ti47, List.map, cellsOf_page, pageEq_refl]
        rw [mwp_load_bs (by simp (disch := first | omega | decide) only [go_sem, f0, f1, hd, hsp, e5, pb2, pb3, pe, cellsOf_page, pageEq_refl]; rfl) (by simp [setAt])]
        exact hK _
      apply aops_step (by decide) rfl
      · intro K hK
        simp (disch := first | omega | decide) only [go_sem, f0, f1, hd, hsp, e5, pb2, pb3, pe, act_call, List.map, cellsOf_page, pageEq_refl]
        apply mwp_call_r rfl rfl rfl
        · intro Q hQ
          (simp (disch := first | omega | decide) only [go_sem, f0, f1, hd, hsp, e5, pb2, pb3, pe, peekL, reifyL_nil, reifyL_cons, reify_v, cellsOf_page, pageEq_refl]; (exact hQ))
        · exact good_refPutP p (by omega) hsp
        · simp [-List.map_take, -List.map_drop, -List.map_append, -List.map_replicate, -List.reduceReplicate, noPtrL, noPtr, noPtrL_bsl, noPtrL_map, sub]
        · simp (disch := first | omega | decide) only [go_sem, f0, f1, hd, hsp, e5, pb2, pb3, pe, cellsOf_page, pageEq_refl]
          exact hK _
      apply aops_step (by decide) rfl
      · intro K hK
        simp (disch := first | omega | decide) only [go_sem, f0, f1, hd, hsp, e5, pb2, pb3, pe, act_call, List.map, cellsOf_page, pageEq_refl]
        apply mwp_call_s rfl rfl rfl
        · intro Q hQ
          (simp (disch := first | omega | decide) only [go_sem, f0, f1, hd, hsp, e5, pb2, pb3, pe, peekL, reifyL_nil, reifyL_cons, reify_v, cellsOf_page, pageEq_refl]; ((((rw [peek_frz (by simp (disch := first | omega | decide) only [go_sem, f0, f1, hd, hsp, e5, pb2, pb3, pe, peekL, reifyL_nil, reifyL_cons, reify_v, cellsOf_page, pageEq_refl]; rfl)]); (try rw [sub_full (by rfl)])); exact hQ)))
        · exact O.good_Same false false (pgPut p) (pgPut p) (by omega) (by omega)
        · simp [-List.map_take, -List.map_drop, -List.map_append, -List.map_replicate, -List.reduceReplicate, noPtrL, noPtr, noPtrL_bsl, noPtrL_map, sub]
        · rfl
        · exact hK _
      iterate 6 (apply aops_step (by decide) rfl; · (intro K hK; simp (disch := first | omega | decide) only [go_sem, f0, f1, hd, hsp, e5, pb2, pb3, pe, cellsOf_page, pageEq_refl]; exact hK _))
      apply aops_step (by decide) rfl
      · intro K hK
        simp (disch := first | omega | decide) only [go_sem, f0, f1, hd, hsp, e5, pb2, pb3, pe, act_load_t ti47, List.map, cellsOf_page, pageEq_refl]
        rw [mwp_load_bs (by simp (disch := first | omega | decide) only [go_sem, f0, f1, hd, hsp, e5, pb2, pb3, pe, cellsOf_page, pageEq_refl]; rfl) (by simp [setAt])]
        exact hK _
      apply aops_step (by decide) rfl
      · intro K hK
        simp (disch := first | omega | decide) only [go_sem, f0, f1, hd, hsp, e5, pb2, pb3, pe, act_load_t ti47, List.map, cellsOf_page, pageEq_refl]
        rw [mwp_load_bs (by simp (disch := first | omega | decide) only [go_sem, f0, f1, hd, hsp, e5, pb2, pb3, pe, cellsOf_page, pageEq_refl]; rfl) (by simp [setAt])]
        exact hK _
      apply aops_step (by decide) rfl
      · intro K hK
        simp (disch := first | omega | decide) only [go_sem, f0, f1, hd, hsp, e5, pb2, pb3, pe, act_call, List.map, cellsOf_page, pageEq_refl]
        apply mwp_call_s rfl rfl rfl
        · intro Q hQ
          (simp (disch := first | omega | decide) only [go_sem, f0, f1, hd, hsp, e5, pb2, pb3, pe, peekL, reifyL_nil, reifyL_cons, reify_v, cellsOf_page, pageEq_refl]; (exact hQ))
        · exact good_refSameP ⟨p.kind, p.gen, p.mark, p.idx, p.part, p.parts, false, p.b⟩ (by show p.b.length ≤ _; omega) p (by omega)
        · simp [-List.map_take, -List.map_drop, -List.map_append, -List.map_replicate, -List.reduceReplicate, noPtrL, noPtr, noPtrL_bsl, noPtrL_map, sub]
        · rfl
        · exact hK _
      iterate 2 (apply aops_step (by decide) rfl; · (intro K hK; simp (disch := first | omega | decide) only [go_sem, f0, f1, hd, hsp, e5, pb2, pb3, pe, cellsOf_page, pageEq_refl]; exact hK _))
      apply aops_step (by decide) rfl
      · intro K hK
        simp (disch := first | omega | decide) only [go_sem, f0, f1, hd, hsp, e5, pb2, pb3, pe, act_call, List.map, cellsOf_page, pageEq_refl]
        apply mwp_call_s rfl rfl rfl
        · intro Q hQ
          (simp (disch := first | omega | decide) only [go_sem, f0, f1, hd, hsp, e5, pb2, pb3, pe, peekL, reifyL_nil, reifyL_cons, reify_v, cellsOf_page, pageEq_refl]; (exact hQ))
        · exact G.good_awake
        · simp [-List.map_take, -List.map_drop, -List.map_append, -List.map_replicate, -List.reduceReplicate, noPtrL, noPtr, noPtrL_bsl, noPtrL_map, sub]
        · rfl
        · exact hK _
      iterate 2 (apply aops_step (by decide) rfl; · (intro K hK; simp (disch := first | omega | decide) only [go_sem, f0, f1, hd, hsp, e5, pb2, pb3, pe, cellsOf_page, pageEq_refl]; exact hK _))
      refine aops_nil ?_
      refine AW.ret ?_
      refine ⟨.inr rfl, ?_⟩
      apply Exists.intro
      refine leaves_tmp1 4 rfl ?_ (by rfl)
      simp (disch := first | omega | decide) only [go_sem, f0, f1, hd, hsp, e5, pb2, pb3, pe, cellsOf_page, pageEq_refl]
      all_goals first | done | rfl | trace_state
    · have hd := decide_eq_false hsp
      have hsp := Bool.eq_false_iff.2 hsp
      obtain ⟨e4, e5⟩ := pg_no hsp
      have pb2 := d00
      have pb3 := d00
      have pe := e4
      refine AW.region (cfg := cfg) ?_
      apply aops_step (by decide) rfl
      · intro K hK
        simp (disch := first | omega | decide) only [go_sem, f0, f1, hd, hsp, e5, pb2, pb3, pe, act_load_t ti47, List.map, cellsOf_page, pageEq_refl]
        rw [mwp_load_bs (by simp (disch := first | omega | decide) only [go_sem, f0, f1, hd, hsp, e5, pb2, pb3, pe, cellsOf_page, pageEq_refl]; rfl) (by simp [setAt])]
        exact hK _
      apply aops_step (by decide) rfl
      · intro K hK
        simp (disch := first | omega | decide) only [go_sem, f0, f1, hd, hsp, e5, pb2, pb3, pe, act_call, List.map, cellsOf_page, pageEq_refl]
        apply mwp_call_r rfl rfl rfl
        · intro Q hQ
          (simp (disch := first | omega | decide) only [go_sem, f0, f1, hd, hsp, e5, pb2, pb3, pe, peekL, reifyL_nil, reifyL_cons, reify_v, cellsOf_page, pageEq_refl]; (exact hQ))
        · exact good_PutP p (by omega)
        · simp [-List.map_take, -List.map_drop, -List.map_append, -List.map_replicate, -List.reduceReplicate, noPtrL, noPtr, noPtrL_bsl, noPtrL_map, sub]
        · rw [resOf_own2 (by (simp (disch := decide) only [mset_ne, hr]; done))]
          exact hK _
      iterate 3 (apply aops_step (by decide) rfl; · (intro K hK; simp (disch := first | omega | decide) only [go_sem, f0, f1, hd, hsp, e5, pb2, pb3, pe, cellsOf_page, pageEq_refl]; exact hK _))
      apply aops_step (by decide) rfl
      · intro K hK
        simp (disch := first | omega | decide) only [go_sem, f0, f1, hd, hsp, e5, pb2, pb3, pe, cellsOf_page, pageEq_refl]
        rw [asg_tmp (by simp (disch := first | omega | decide) only [go_sem, f0, f1, hd, hsp, e5, pb2, pb3, pe, cellsOf_page, pageEq_refl]; rfl)]
        exact hK _
      iterate 1 (apply aops_step (by decide) rfl; · (intro K hK; simp (disch := first | omega | decide) only [go_sem, f0, f1, hd, hsp, e5, pb2, pb3, pe, cellsOf_page, pageEq_refl]; exact hK _))
      refine aops_nil ?_
      refine AW.seq ?_
      refine AW.seq ?_
      refine AW.draw (cfg := cfg) (by kernel_rfl) (by kernel_rfl) (by kernel_rfl) ?_
      apply adraw_step rfl
      · intro K hK
        simp (disch := first | omega | decide) only [go_sem, f0, f1, hd, hsp, e5, pb2, pb3, pe, act_load_t ti47, List.map, cellsOf_page, pageEq_refl]
        rw [mwp_load_bs (by simp (disch := first | omega | decide) only [go_sem, f0, f1, hd, hsp, e5, pb2, pb3, pe, cellsOf_page, pageEq_refl]; rfl) (by simp [setAt])]
        exact hK
      apply adraw_step rfl
      · intro K hK
        simp (disch := first | omega | decide) only [go_sem, f0, f1, hd, hsp, e5, pb2, pb3, pe, act_load_t ti47, List.map, cellsOf_page, pageEq_refl]
        rw [mwp_load_bs (by simp (disch := first | omega | decide) only [go_sem, f0, f1, hd, hsp, e5, pb2, pb3, pe, cellsOf_page, pageEq_refl]; rfl) (by simp [setAt])]
        exact hK
      apply adraw_step rfl
      · intro K hK
        simp (disch := first | omega | decide) only [go_sem, f0, f1, hd, hsp, e5, pb2, pb3, pe, act_call, List.map, cellsOf_page, pageEq_refl]
        apply mwp_call_s rfl rfl rfl
        · intro Q hQ
          (simp (disch := first | omega | decide) only [go_sem, f0, f1, hd, hsp, e5, pb2, pb3, pe, peekL, reifyL_nil, reifyL_cons, reify_v, cellsOf_page, pageEq_refl]; (exact hQ))
        · exact good_SameP p (by omega) q (by omega)
        · simp [-List.map_take, -List.map_drop, -List.map_append, -List.map_replicate, -List.reduceReplicate, noPtrL, noPtr, noPtrL_bsl, noPtrL_map, sub]
        · rfl
        · exact hK
      apply adraw_step rfl
      · intro K hK
        simp (disch := first | omega | decide) only [go_sem, f0, f1, hd, hsp, e5, pb2, pb3, pe, act_load_t ti47, List.map, cellsOf_page, pageEq_refl]
        rw [mwp_load_bs (by simp (disch := first | omega | decide) only [go_sem, f0, f1, hd, hsp, e5, pb2, pb3, pe, cellsOf_page, pageEq_refl]; rfl) (by simp [setAt])]
        exact hK
      apply adraw_step rfl
      · intro K hK
        simp (disch := first | omega | decide) only [go_sem, f0, f1, hd, hsp, e5, pb2, pb3, pe, act_load_t ti47, List.map, cellsOf_page, pageEq_refl]
        rw [mwp_load_bs (by simp (disch := first | omega | decide) only [go_sem, f0, f1, hd, hsp, e5, pb2, pb3, pe, cellsOf_page, pageEq_refl]; rfl) (by simp [setAt])]
        exact hK
      apply adraw_step rfl
      · intro K hK
        simp (disch := first | omega | decide) only [go_sem, f0, f1, hd, hsp, e5, pb2, pb3, pe, act_call, List.map, cellsOf_page, pageEq_refl]
        apply mwp_call_s rfl rfl rfl
        · intro Q hQ
          (simp (disch := first | omega | decide) only [go_sem, f0, f1, hd, hsp, e5, pb2, pb3, pe, peekL, reifyL_nil, reifyL_cons, reify_v, cellsOf_page, pageEq_refl]; (exact hQ))
        · exact good_refSameP p (by omega) q (by omega)
        · simp [-List.map_take, -List.map_drop, -List.map_append, -List.map_replicate, -List.reduceReplicate, noPtrL, noPtr, noPtrL_bsl, noPtrL_map, sub]
        · rfl
        · exact hK
      iterate 2 (apply adraw_step rfl; · (intro K hK; simp (disch := first | omega | decide) only [go_sem, f0, f1, hd, hsp, e5, pb2, pb3, pe, bin_neq_b u4, cellsOf_page, pageEq_refl]; exact hK))
      apply adraw_step rfl
      · intro K hK
        simp (disch := first | omega | decide) only [go_sem, f0, f1, hd, hsp, e5, pb2, pb3, pe, act_load_t ti47, List.map, cellsOf_page, pageEq_refl]
        rw [mwp_load_bs (by simp (disch := first | omega | decide) only [go_sem, f0, f1, hd, hsp, e5, pb2, pb3, pe, cellsOf_page, pageEq_refl]; rfl) (by simp [setAt])]
        exact hK
      apply adraw_step rfl
      · intro K hK
        simp (disch := first | omega | decide) only [go_sem, f0, f1, hd, hsp, e5, pb2, pb3, pe, act_load_t ti47, List.map, cellsOf_page, pageEq_refl]
        rw [mwp_load_bs (by simp (disch := first | omega | decide) only [go_sem, f0, f1, hd, hsp, e5, pb2, pb3, pe, cellsOf_page, pageEq_refl]; rfl) (by simp [setAt])]
        exact hK
      apply adraw_step rfl
      · intro K hK
        simp (disch := first | omega | decide) only [go_sem, f0, f1, hd, hsp, e5, pb2, pb3, pe, act_call, List.map, cellsOf_page, pageEq_refl]
        apply mwp_call_s rfl rfl rfl
        · intro Q hQ
          (simp (disch := first | omega | decide) only [go_sem, f0, f1, hd, hsp, e5, pb2, pb3, pe, peekL, reifyL_nil, reifyL_cons, reify_v, cellsOf_page, pageEq_refl]; (exact hQ))
        · exact good_SameP p (by omega) p (by omega)
        · simp [-List.map_take, -List.map_drop, -List.map_append, -List.map_replicate, -List.reduceReplicate, noPtrL, noPtr, noPtrL_bsl, noPtrL_map, sub]
        · rfl
        · exact hK
      iterate 2 (apply adraw_step rfl; · (intro K hK; simp (disch := first | omega | decide) only [go_sem, f0, f1, hd, hsp, e5, pb2, pb3, pe, cellsOf_page, pageEq_refl]; exact hK))
      refine adraw_nil (by kernel_rfl) ?_
      apply AW.cond
      · simp (disch := first | omega | decide) only [go_sem, f0, f1, hd, hsp, e5, pb2, pb3, pe, cellsOf_page, pageEq_refl]; rfl
      case ht => intro hb; simp at hb
      case hf =>
      intro hb
      have hbt37 := hb
      refine AW.skip ?_
      refine AW.seq ?_
      refine AW.seq ?_
      refine AW.region (cfg := cfg) ?_
      apply aops_step (by decide) rfl
      · intro K hK
        simp (disch := first | omega | decide) only [go_sem, f0, f1, hd, hsp, e5, pb2, pb3, pe, act_load_t ti47, List.map, cellsOf_page, pageEq_refl]
        rw [mwp_load_bs (by simp (disch := first | omega | decide) only [go_sem, f0, f1, hd, hsp, e5, pb2, pb3, pe, cellsOf_page, pageEq_refl]; rfl) (by simp [setAt])]
        exact hK _
      apply aops_step (by decide) rfl
      · intro K hK
        simp (disch := first | omega | decide) only [go_sem, f0, f1, hd, hsp, e5, pb2, pb3, pe, act_call, List.map, cellsOf_page, pageEq_refl]
        apply mwp_call_s rfl rfl rfl
        · intro Q hQ
          (simp (disch := first | omega | decide) only [go_sem, f0, f1, hd, hsp, e5, pb2, pb3, pe, peekL, reifyL_nil, reifyL_cons, reify_v, cellsOf_page, pageEq_refl]; (exact hQ))
        · exact good_refMayP p (by omega)
        · simp [-List.map_take, -List.map_drop, -List.map_append, -List.map_replicate, -List.reduceReplicate, noPtrL, noPtr, noPtrL_bsl, noPtrL_map, sub]
        · rfl
        · exact hK _
      iterate 1 (apply aops_step (by decide) rfl; · (intro K hK; simp (disch := first | omega | decide) only [go_sem, f0, f1, hd, hsp, e5, pb2, pb3, pe, cellsOf_page, pageEq_refl]; exact hK _))
      refine aops_nil ?_
      apply AW.cond
      · simp (disch := first | omega | decide) only [go_sem, f0, f1, hd, hsp, e5, pb2, pb3, pe, cellsOf_page, pageEq_refl]; rfl
      case hf => intro hb; simp at hb
      case ht =>
      intro hb
      have hbt40 := hb
      refine AW.seq ?_
      refine AW.region (cfg := cfg) ?_
      iterate 4 (apply aops_step (by decide) rfl; · (intro K hK; simp (disch := first | omega | decide) only [go_sem, f0, f1, hd, hsp, e5, pb2, pb3, pe, cellsOf_page, pageEq_refl]; exact hK _))
      apply aops_step (by decide) rfl
      · intro K hK
        simp (disch := first | omega | decide) only [go_sem, f0, f1, hd, hsp, e5, pb2, pb3, pe, List.map, List.length_map, aops_len u25, cellsOf_page, pageEq_refl]
        ((rw [mwp_len_own u25 (by simp (disch := first | omega | decide) only [go_sem, f0, f1, hd, hsp, e5, pb2, pb3, pe, List.map, cellsOf_page, pageEq_refl]; rfl)]); (try rw [sub_full (by rfl)]); (try simp only [List.length_map]); exact hK _)
      iterate 3 (apply aops_step (by decide) rfl; · (intro K hK; simp (disch := first | omega | decide) only [go_sem, f0, f1, hd, hsp, e5, pb2, pb3, pe, cellsOf_page, pageEq_refl]; exact hK _))
      apply aops_step (by decide) rfl
      · intro K hK
        simp (disch := first | omega | decide) only [go_sem, f0, f1, hd, hsp, e5, pb2, pb3, pe, act_call, List.map, cellsOf_page, pageEq_refl]
        apply mwp_call_s rfl rfl rfl
        · intro Q hQ
          (simp (disch := first | omega | decide) only [go_sem, f0, f1, hd, hsp, e5, pb2, pb3, pe, peekL, reifyL_nil, reifyL_cons, reify_v, cellsOf_page, pageEq_refl]; (exact hQ))
        · exact G.good_awake
        · simp [-List.map_take, -List.map_drop, -List.map_append, -List.map_replicate, -List.reduceReplicate, noPtrL, noPtr, noPtrL_bsl, noPtrL_map, sub]
        · rfl
        · exact hK _
      iterate 2 (apply aops_step (by decide) rfl; · (intro K hK; simp (disch := first | omega | decide) only [go_sem, f0, f1, hd, hsp, e5, pb2, pb3, pe, cellsOf_page, pageEq_refl]; exact hK _))
      refine aops_nil ?_
      refine AW.ret ?_
      refine ⟨.inr rfl, ?_⟩
      apply Exists.intro
      refine leaves_tmp1 4 rfl ?_ (by rfl)
      simp (disch := first | omega | decide) only [go_sem, f0, f1, hd, hsp, e5, pb2, pb3, pe, cellsOf_page, pageEq_refl]
      all_goals rfl

end Go.Vai.G
