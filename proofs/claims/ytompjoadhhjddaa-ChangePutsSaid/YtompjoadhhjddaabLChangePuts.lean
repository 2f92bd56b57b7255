import Derived.Test.YtompjoadhhjddaabCh6
namespace Go.Vai.C
open Go.Proofs Go.Vai Go.Vai.G Go.Vai.L Go.Vai.O
set_option linter.unusedSimpArgs false
set_option linter.unusedVariables false

theorem light_way (l : List Ch) : lightC l = false ∨ lightC l = true := by cases lightC l <;> simp
theorem all_way (l : List Ch) : (allCh l && many l) = false ∨ (allCh l && many l) = true := by cases (allCh l && many l) <;> simp
set_option maxHeartbeats 4000000 in
set_option maxRecDepth 100000 in
theorem good_ChangePuts (nil : Bool) (l : List Ch) (hl : l.length ≤ 9223372036854775807) (pl : ∀ c ∈ l, c.l.ls.length ≤ 9223372036854775807)(c : Ch) (hc : c.l.ls.length ≤ 9223372036854775807)(d : Ch) (hd : d.l.ls.length ≤ 9223372036854775807) : Good Try.prog 11 [(.sl 6 nil (l.map chA), false), (chA c, false), (chA d, false)] [] [(.b true, false)] [] := by
  refine good_of_body4 80 Try.func11 rfl rfl rfl (by simp) (by simp) (by simp [noPtrL, noPtr]) (by rfl) ?_
  intro s m ha hr hv hG
  have f0 : s 0 = .v (.sl 6 nil (l.map chA)) := ha 0 _ rfl
  have f1 : s 1 = .v (.agg [i64 c.kind, i64 c.l.o, i64 c.l.s, .sl 2 c.l.nil (c.l.ls.map linkA), i64 c.n, i64 c.of]) := ha 1 _ rfl
  have f2 : s 2 = .v (.agg [i64 d.kind, i64 d.l.o, i64 d.l.s, .sl 2 d.l.nil (d.l.ls.map linkA), i64 d.n, i64 d.of]) := ha 2 _ rfl
  clear ha
  refine AW.seq ?_
  refine AW.region (cfg := cfg) ?_
  apply aops_step (by decide) rfl
  · intro K hK
    simp (disch := first | omega | decide) only [go_sem, f0, f1, f2, act_box_t ti74, List.map, cellsOf_ch, cellsOf_lsa, chE_dec, ne_eq, not_true_eq_false]
    rw [settleL_vish _ _ (by rfl)]
    simp (disch := first | omega | decide) only [go_sem, f0, f1, f2, cellsL, List.map, List.length_cons, List.length_nil, Nat.reduceAdd, if_true, cellsOf_ch, cellsOf_lsa, chE_dec, ne_eq, not_true_eq_false]
    exact hK _
  apply aops_step (by decide) rfl
  · intro K hK
    simp (disch := first | omega | decide) only [go_sem, f0, f1, f2, act_box_t ti74, List.map, cellsOf_ch, cellsOf_lsa, chE_dec, ne_eq, not_true_eq_false]
    rw [settleL_vish _ _ (by rfl)]
    simp (disch := first | omega | decide) only [go_sem, f0, f1, f2, cellsL, List.map, List.length_cons, List.length_nil, Nat.reduceAdd, if_true, cellsOf_ch, cellsOf_lsa, chE_dec, ne_eq, not_true_eq_false]
    exact hK _
  iterate 1 (apply aops_step (by decide) rfl; · (intro K hK; simp (disch := first | omega | decide) only [go_sem, f0, f1, f2, cellsOf_ch, cellsOf_lsa, chE_dec, ne_eq, not_true_eq_false]; exact hK _))
  refine aops_nil ?_
  refine AW.seq ?_
  refine AW.seq ?_
  rcases light_way l with hli | hli
  · skip
    have hlj := hli
    refine AW.region (cfg := cfg) ?_
    iterate 1 (apply aops_step (by decide) rfl; · (intro K hK; simp (disch := first | omega | decide) only [go_sem, f0, f1, f2, hli, cellsOf_ch, cellsOf_lsa, chE_dec, ne_eq, not_true_eq_false]; exact hK _))
    apply aops_step (by decide) rfl
    · intro K hK
      simp (disch := first | omega | decide) only [go_sem, f0, f1, f2, hli, act_call, List.map, cellsOf_ch, cellsOf_lsa, chE_dec, ne_eq, not_true_eq_false]
      apply mwp_call_s rfl rfl rfl
      · intro Q hQ
        (simp (disch := first | omega | decide) only [go_sem, f0, f1, f2, hli, peekL, reifyL_nil, reifyL_cons, reify_v, cellsOf_ch, cellsOf_lsa, chE_dec, ne_eq, not_true_eq_false]; (exact hQ))
      · exact good_LightC nil l (by omega) pl
      · simp [-List.map_take, -List.map_drop, -List.map_append, -List.map_replicate, -List.reduceReplicate, noPtrL, noPtr, noPtrL_bsl, noPtrL_map, sub]
      · rfl
      · exact hK _
    iterate 2 (apply aops_step (by decide) rfl; · (intro K hK; simp (disch := first | omega | decide) only [go_sem, f0, f1, f2, hli, cellsOf_ch, cellsOf_lsa, chE_dec, ne_eq, not_true_eq_false]; exact hK _))
    apply aops_skip' (by decide) rfl
    apply aops_skip' (by decide) rfl
    apply aops_skip' (by decide) rfl
    apply aops_skip' (by decide) rfl
    apply aops_skip' (by decide) rfl
    iterate 1 (apply aops_step (by decide) rfl; · (intro K hK; simp (disch := first | omega | decide) only [go_sem, f0, f1, f2, hli, cellsOf_ch, cellsOf_lsa, chE_dec, ne_eq, not_true_eq_false]; exact hK _))
    refine aops_nil ?_
    apply AW.cond
    · simp (disch := first | omega | decide) only [go_sem, f0, f1, f2, hli, cellsOf_ch, cellsOf_lsa, chE_dec, ne_eq, not_true_eq_false]; rfl
    case hf => intro hb; simp at hb
    case ht =>
    intro hb
    have hbt20 := hb
    refine AW.seq ?_
    refine AW.region (cfg := cfg) ?_
    apply aops_step (by decide) rfl
    · intro K hK
      simp (disch := first | omega | decide) only [go_sem, f0, f1, f2, hli, act_call, List.map, cellsOf_ch, cellsOf_lsa, chE_dec, ne_eq, not_true_eq_false]
      apply mwp_call_s rfl rfl rfl
      · intro Q hQ
        (simp (disch := first | omega | decide) only [go_sem, f0, f1, f2, hli, peekL, reifyL_nil, reifyL_cons, reify_v, cellsOf_ch, cellsOf_lsa, chE_dec, ne_eq, not_true_eq_false]; (exact hQ))
      · exact good_awake
      · simp [-List.map_take, -List.map_drop, -List.map_append, -List.map_replicate, -List.reduceReplicate, noPtrL, noPtr, noPtrL_bsl, noPtrL_map, sub]
      · rfl
      · exact hK _
    iterate 1 (apply aops_step (by decide) rfl; · (intro K hK; simp (disch := first | omega | decide) only [go_sem, f0, f1, f2, hli, cellsOf_ch, cellsOf_lsa, chE_dec, ne_eq, not_true_eq_false]; exact hK _))
    refine aops_nil ?_
    refine AW.ret ?_
    refine ⟨.inr rfl, ?_⟩
    apply Exists.intro
    refine leaves_tmp1 6 rfl ?_ (by rfl)
    simp (disch := first | omega | decide) only [go_sem, f0, f1, f2, hli, cellsOf_ch, cellsOf_lsa, chE_dec, ne_eq, not_true_eq_false]
    all_goals first | done | rfl | trace_state
  · skip
    obtain ⟨lb1, lb2⟩ := lightC_bd hli
    refine AW.region (cfg := cfg) ?_
    iterate 1 (apply aops_step (by decide) rfl; · (intro K hK; simp (disch := first | omega | decide) only [go_sem, f0, f1, f2, hli, cellsOf_ch, cellsOf_lsa, chE_dec, ne_eq, not_true_eq_false]; exact hK _))
    apply aops_step (by decide) rfl
    · intro K hK
      simp (disch := first | omega | decide) only [go_sem, f0, f1, f2, hli, act_call, List.map, cellsOf_ch, cellsOf_lsa, chE_dec, ne_eq, not_true_eq_false]
      apply mwp_call_s rfl rfl rfl
      · intro Q hQ
        (simp (disch := first | omega | decide) only [go_sem, f0, f1, f2, hli, peekL, reifyL_nil, reifyL_cons, reify_v, cellsOf_ch, cellsOf_lsa, chE_dec, ne_eq, not_true_eq_false]; (exact hQ))
      · exact good_LightC nil l (by omega) pl
      · simp [-List.map_take, -List.map_drop, -List.map_append, -List.map_replicate, -List.reduceReplicate, noPtrL, noPtr, noPtrL_bsl, noPtrL_map, sub]
      · rfl
      · exact hK _
    iterate 2 (apply aops_step (by decide) rfl; · (intro K hK; simp (disch := first | omega | decide) only [go_sem, f0, f1, f2, hli, cellsOf_ch, cellsOf_lsa, chE_dec, ne_eq, not_true_eq_false]; exact hK _))
    apply aops_step (by decide) rfl
    · intro K hK
      simp (disch := first | omega | decide) only [go_sem, f0, f1, f2, hli, act_load_t ti74, List.map, cellsOf_ch, cellsOf_lsa, chE_dec, ne_eq, not_true_eq_false]
      rw [mwp_load_bs (by simp (disch := first | omega | decide) only [go_sem, f0, f1, f2, hli, cellsOf_ch, cellsOf_lsa, chE_dec, ne_eq, not_true_eq_false]; rfl) (by simp [setAt])]
      exact hK _
    apply aops_step (by decide) rfl
    · intro K hK
      simp (disch := first | omega | decide) only [go_sem, f0, f1, f2, hli, act_load_t ti74, List.map, cellsOf_ch, cellsOf_lsa, chE_dec, ne_eq, not_true_eq_false]
      rw [mwp_load_bs (by simp (disch := first | omega | decide) only [go_sem, f0, f1, f2, hli, cellsOf_ch, cellsOf_lsa, chE_dec, ne_eq, not_true_eq_false]; rfl) (by simp [setAt])]
      exact hK _
    apply aops_step (by decide) rfl
    · intro K hK
      rw [act_bs el65 ti74]
      (simp (disch := first | omega | decide) only [go_sem, f0, f1, f2, hli, List.map, elems_cons, cellsOf_ch, cellsOf_lsa, chE_dec, ne_eq, not_true_eq_false]; rw [if_pos (by decide)]; simp (disch := first | omega | decide) only [go_sem, f0, f1, f2, hli, List.map, elems_cons, cellsOf_ch, cellsOf_lsa, chE_dec, ne_eq, not_true_eq_false]; simp only [List.drop_zero, List.drop_succ_cons, List.take_succ_cons, List.take_zero]; rw [mwp_reify_agg]; (repeat rw [mwp_reifyL_v]); rw [mwp_reifyL_nil]; simp [-List.map_take, -List.map_drop, -BitVec.toNat_ofInt, go_sem, cellishAV, Value.oneCell', isAggAV, partsOf, TI.z, TI.mk1, mwp_if, cellsOf]; rw [mwp_reify_agg]; (repeat rw [mwp_reifyL_v]); rw [mwp_reifyL_nil]; simp [-List.map_take, -List.map_drop, -BitVec.toNat_ofInt, go_sem, cellishAV, Value.oneCell', isAggAV, partsOf, TI.z, TI.mk1, mwp_if, cellsOf]; exact hK _)
    apply aops_step (by decide) rfl
    · intro K hK
      simp (disch := first | omega | decide) only [go_sem, f0, f1, f2, hli, act_call, List.map, cellsOf_ch, cellsOf_lsa, chE_dec, ne_eq, not_true_eq_false]
      apply mwp_call_s rfl rfl rfl
      · intro Q hQ
        (simp (disch := first | omega | decide) only [go_sem, f0, f1, f2, hli, peekL, reifyL_nil, reifyL_cons, reify_v, cellsOf_ch, cellsOf_lsa, chE_dec, ne_eq, not_true_eq_false]; ((((rw [peek_own (by simp (disch := first | omega | decide) only [go_sem, f0, f1, f2, hli, peekL, reifyL_nil, reifyL_cons, reify_v, cellsOf_ch, cellsOf_lsa, chE_dec, ne_eq, not_true_eq_false]; rfl)]); (try rw [sub_full (by rfl)])); exact hQ)))
      · exact good_LightC false [c, d] (by simp) (by intro x hx; rcases List.mem_cons.1 hx with h | hx; rw [h]; exact hc; rcases List.mem_cons.1 hx with h | hx; rw [h]; exact hd; cases hx)
      · simp [-List.map_take, -List.map_drop, -List.map_append, -List.map_replicate, -List.reduceReplicate, noPtrL, noPtr, noPtrL_bsl, noPtrL_map, sub]
      · rfl
      · exact hK _
    iterate 2 (apply aops_step (by decide) rfl; · (intro K hK; simp (disch := first | omega | decide) only [go_sem, f0, f1, f2, hli, cellsOf_ch, cellsOf_lsa, chE_dec, ne_eq, not_true_eq_false]; exact hK _))
    refine aops_nil ?_
    apply AW.cond
    · simp (disch := first | omega | decide) only [go_sem, f0, f1, f2, hli, cellsOf_ch, cellsOf_lsa, chE_dec, ne_eq, not_true_eq_false]; rfl
    case ht =>
      intro hb
      try simp only [Bool.or_eq_true, Bool.and_eq_true, Bool.or_eq_false_iff, Bool.and_eq_false_iff, decide_eq_true_eq, decide_eq_false_iff_not] at hb
      have hbt20 := hb
      refine AW.seq ?_
      refine AW.region (cfg := cfg) ?_
      apply aops_step (by decide) rfl
      · intro K hK
        simp (disch := first | omega | decide) only [go_sem, f0, f1, f2, hli, act_call, List.map, cellsOf_ch, cellsOf_lsa, chE_dec, ne_eq, not_true_eq_false]
        apply mwp_call_s rfl rfl rfl
        · intro Q hQ
          (simp (disch := first | omega | decide) only [go_sem, f0, f1, f2, hli, peekL, reifyL_nil, reifyL_cons, reify_v, cellsOf_ch, cellsOf_lsa, chE_dec, ne_eq, not_true_eq_false]; (exact hQ))
        · exact good_awake
        · simp [-List.map_take, -List.map_drop, -List.map_append, -List.map_replicate, -List.reduceReplicate, noPtrL, noPtr, noPtrL_bsl, noPtrL_map, sub]
        · rfl
        · exact hK _
      iterate 1 (apply aops_step (by decide) rfl; · (intro K hK; simp (disch := first | omega | decide) only [go_sem, f0, f1, f2, hli, cellsOf_ch, cellsOf_lsa, chE_dec, ne_eq, not_true_eq_false]; exact hK _))
      refine aops_nil ?_
      refine AW.ret ?_
      refine ⟨.inr rfl, ?_⟩
      apply Exists.intro
      refine leaves_tmp1 6 rfl ?_ (by rfl)
      simp (disch := first | omega | decide) only [go_sem, f0, f1, f2, hli, cellsOf_ch, cellsOf_lsa, chE_dec, ne_eq, not_true_eq_false]
      all_goals first | done | rfl | trace_state
    case hf =>
      intro hb
      try simp only [Bool.or_eq_true, Bool.and_eq_true, Bool.or_eq_false_iff, Bool.and_eq_false_iff, decide_eq_true_eq, decide_eq_false_iff_not] at hb
      have hbt20 := hb
      refine AW.skip ?_
      refine AW.seq ?_
      refine AW.seq ?_
      refine AW.draw (cfg := cfg) (by kernel_rfl) (by kernel_rfl) (by kernel_rfl) ?_
      apply adraw_step rfl
      · intro K hK
        simp (disch := first | omega | decide) only [go_sem, f0, f1, f2, hli, act_load_t ti74, List.map, cellsOf_ch, cellsOf_lsa, chE_dec, ne_eq, not_true_eq_false]
        rw [mwp_load_bs (by simp (disch := first | omega | decide) only [go_sem, f0, f1, f2, hli, cellsOf_ch, cellsOf_lsa, chE_dec, ne_eq, not_true_eq_false]; rfl) (by simp [setAt])]
        exact hK
      apply adraw_step rfl
      · intro K hK
        simp (disch := first | omega | decide) only [go_sem, f0, f1, f2, hli, act_call, List.map, cellsOf_ch, cellsOf_lsa, chE_dec, ne_eq, not_true_eq_false]
        apply mwp_call_s rfl rfl rfl
        · intro Q hQ
          (simp (disch := first | omega | decide) only [go_sem, f0, f1, f2, hli, peekL, reifyL_nil, reifyL_cons, reify_v, cellsOf_ch, cellsOf_lsa, chE_dec, ne_eq, not_true_eq_false]; (exact hQ))
        · exact good_CheckC c hc
        · simp [-List.map_take, -List.map_drop, -List.map_append, -List.map_replicate, -List.reduceReplicate, noPtrL, noPtr, noPtrL_bsl, noPtrL_map, sub]
        · rfl
        · exact hK
      iterate 1 (apply adraw_step rfl; · (intro K hK; simp (disch := first | omega | decide) only [go_sem, f0, f1, f2, hli, cellsOf_ch, cellsOf_lsa, chE_dec, ne_eq, not_true_eq_false]; exact hK))
      apply adraw_step rfl
      · intro K hK
        simp (disch := first | omega | decide) only [go_sem, f0, f1, f2, hli, act_load_t ti74, List.map, cellsOf_ch, cellsOf_lsa, chE_dec, ne_eq, not_true_eq_false]
        rw [mwp_load_bs (by simp (disch := first | omega | decide) only [go_sem, f0, f1, f2, hli, cellsOf_ch, cellsOf_lsa, chE_dec, ne_eq, not_true_eq_false]; rfl) (by simp [setAt])]
        exact hK
      apply adraw_step rfl
      · intro K hK
        simp (disch := first | omega | decide) only [go_sem, f0, f1, f2, hli, act_call, List.map, cellsOf_ch, cellsOf_lsa, chE_dec, ne_eq, not_true_eq_false]
        apply mwp_call_s rfl rfl rfl
        · intro Q hQ
          (simp (disch := first | omega | decide) only [go_sem, f0, f1, f2, hli, peekL, reifyL_nil, reifyL_cons, reify_v, cellsOf_ch, cellsOf_lsa, chE_dec, ne_eq, not_true_eq_false]; (exact hQ))
        · exact good_refMayC c hc
        · simp [-List.map_take, -List.map_drop, -List.map_append, -List.map_replicate, -List.reduceReplicate, noPtrL, noPtr, noPtrL_bsl, noPtrL_map, sub]
        · rfl
        · exact hK
      iterate 2 (apply adraw_step rfl; · (intro K hK; simp (disch := first | omega | decide) only [go_sem, f0, f1, f2, hli, bin_neq_b u4, cellsOf_ch, cellsOf_lsa, chE_dec, ne_eq, not_true_eq_false]; exact hK))
      apply adraw_step rfl
      · intro K hK
        simp (disch := first | omega | decide) only [go_sem, f0, f1, f2, hli, act_load_t ti74, List.map, cellsOf_ch, cellsOf_lsa, chE_dec, ne_eq, not_true_eq_false]
        rw [mwp_load_bs (by simp (disch := first | omega | decide) only [go_sem, f0, f1, f2, hli, cellsOf_ch, cellsOf_lsa, chE_dec, ne_eq, not_true_eq_false]; rfl) (by simp [setAt])]
        exact hK
      apply adraw_step rfl
      · intro K hK
        simp (disch := first | omega | decide) only [go_sem, f0, f1, f2, hli, act_load_t ti74, List.map, cellsOf_ch, cellsOf_lsa, chE_dec, ne_eq, not_true_eq_false]
        rw [mwp_load_bs (by simp (disch := first | omega | decide) only [go_sem, f0, f1, f2, hli, cellsOf_ch, cellsOf_lsa, chE_dec, ne_eq, not_true_eq_false]; rfl) (by simp [setAt])]
        exact hK
      apply adraw_step rfl
      · intro K hK
        simp (disch := first | omega | decide) only [go_sem, f0, f1, f2, hli, act_call, List.map, cellsOf_ch, cellsOf_lsa, chE_dec, ne_eq, not_true_eq_false]
        apply mwp_call_s rfl rfl rfl
        · intro Q hQ
          (simp (disch := first | omega | decide) only [go_sem, f0, f1, f2, hli, peekL, reifyL_nil, reifyL_cons, reify_v, cellsOf_ch, cellsOf_lsa, chE_dec, ne_eq, not_true_eq_false]; (exact hQ))
        · exact good_SameC c hc d hd
        · simp [-List.map_take, -List.map_drop, -List.map_append, -List.map_replicate, -List.reduceReplicate, noPtrL, noPtr, noPtrL_bsl, noPtrL_map, sub]
        · rfl
        · exact hK
      apply adraw_step rfl
      · intro K hK
        simp (disch := first | omega | decide) only [go_sem, f0, f1, f2, hli, act_load_t ti74, List.map, cellsOf_ch, cellsOf_lsa, chE_dec, ne_eq, not_true_eq_false]
        rw [mwp_load_bs (by simp (disch := first | omega | decide) only [go_sem, f0, f1, f2, hli, cellsOf_ch, cellsOf_lsa, chE_dec, ne_eq, not_true_eq_false]; rfl) (by simp [setAt])]
        exact hK
      apply adraw_step rfl
      · intro K hK
        simp (disch := first | omega | decide) only [go_sem, f0, f1, f2, hli, act_load_t ti74, List.map, cellsOf_ch, cellsOf_lsa, chE_dec, ne_eq, not_true_eq_false]
        rw [mwp_load_bs (by simp (disch := first | omega | decide) only [go_sem, f0, f1, f2, hli, cellsOf_ch, cellsOf_lsa, chE_dec, ne_eq, not_true_eq_false]; rfl) (by simp [setAt])]
        exact hK
      apply adraw_step rfl
      · intro K hK
        simp (disch := first | omega | decide) only [go_sem, f0, f1, f2, hli, act_call, List.map, cellsOf_ch, cellsOf_lsa, chE_dec, ne_eq, not_true_eq_false]
        apply mwp_call_s rfl rfl rfl
        · intro Q hQ
          (simp (disch := first | omega | decide) only [go_sem, f0, f1, f2, hli, peekL, reifyL_nil, reifyL_cons, reify_v, cellsOf_ch, cellsOf_lsa, chE_dec, ne_eq, not_true_eq_false]; (exact hQ))
        · exact good_refSameC c hc d hd
        · simp [-List.map_take, -List.map_drop, -List.map_append, -List.map_replicate, -List.reduceReplicate, noPtrL, noPtr, noPtrL_bsl, noPtrL_map, sub]
        · rfl
        · exact hK
      iterate 2 (apply adraw_step rfl; · (intro K hK; simp (disch := first | omega | decide) only [go_sem, f0, f1, f2, hli, bin_neq_b u4, cellsOf_ch, cellsOf_lsa, chE_dec, ne_eq, not_true_eq_false]; exact hK))
      refine adraw_nil (by kernel_rfl) ?_
      apply AW.cond
      · simp (disch := first | omega | decide) only [go_sem, f0, f1, f2, hli, cellsOf_ch, cellsOf_lsa, chE_dec, ne_eq, not_true_eq_false]; rfl
      case ht => intro hb; simp at hb
      case hf =>
      intro hb
      have hbt36 := hb
      refine AW.skip ?_
      refine AW.seq ?_
      refine AW.region (cfg := cfg) ?_
      iterate 1 (apply aops_step (by decide) rfl; · (intro K hK; simp (disch := first | omega | decide) only [go_sem, f0, f1, f2, hli, cellsOf_ch, cellsOf_lsa, chE_dec, ne_eq, not_true_eq_false]; exact hK _))
      apply aops_step (by decide) rfl
      · intro K hK
        simp (disch := first | omega | decide) only [go_sem, f0, f1, f2, hli, act_call, List.map, cellsOf_ch, cellsOf_lsa, chE_dec, ne_eq, not_true_eq_false]
        apply mwp_call_r rfl rfl rfl
        · intro Q hQ
          (simp (disch := first | omega | decide) only [go_sem, f0, f1, f2, hli, peekL, reifyL_nil, reifyL_cons, reify_v, cellsOf_ch, cellsOf_lsa, chE_dec, ne_eq, not_true_eq_false]; (exact hQ))
        · exact (good_PutC nil l (by omega) pl).lend2
        · simp [-List.map_take, -List.map_drop, -List.map_append, -List.map_replicate, -List.reduceReplicate, noPtrL, noPtr, noPtrL_bsl, noPtrL_map, sub]
        · simp (disch := first | omega | decide) only [go_sem, f0, f1, f2, hli, cellsOf_ch, cellsOf_lsa, chE_dec, ne_eq, not_true_eq_false]
          exact hK _
      iterate 5 (apply aops_step (by decide) rfl; · (intro K hK; simp (disch := first | omega | decide) only [go_sem, f0, f1, f2, hli, cellsOf_ch, cellsOf_lsa, chE_dec, ne_eq, not_true_eq_false]; exact hK _))
      refine aops_nil ?_
      refine AW.seq ?_
      refine AW.seq ?_
      rcases all_way l with ha | ha
      · skip
        have zp : putOK l = false := (by rw [putOK, Bool.and_comm]; exact ha)
        obtain ⟨zs, ze⟩ := put_no zp
        have zg := d00
        have zh := d00
        have zi := d00
        refine AW.region (cfg := cfg) ?_
        iterate 1 (apply aops_step (by decide) rfl; · (intro K hK; simp (disch := first | omega | decide) only [go_sem, f0, f1, f2, hli, ha, zp, zs, ze, zg, zh, zi, cellsOf_ch, cellsOf_lsa, chE_dec, ne_eq, not_true_eq_false]; exact hK _))
        apply aops_step (by decide) rfl
        · intro K hK
          simp (disch := first | omega | decide) only [go_sem, f0, f1, f2, hli, ha, zp, zs, ze, zg, zh, zi, act_call, List.map, cellsOf_ch, cellsOf_lsa, chE_dec, ne_eq, not_true_eq_false]
          apply mwp_call_s rfl rfl rfl
          · intro Q hQ
            (simp (disch := first | omega | decide) only [go_sem, f0, f1, f2, hli, ha, zp, zs, ze, zg, zh, zi, peekL, reifyL_nil, reifyL_cons, reify_v, cellsOf_ch, cellsOf_lsa, chE_dec, ne_eq, not_true_eq_false]; (exact hQ))
          · exact good_refAllC nil l (by omega) pl
          · simp [-List.map_take, -List.map_drop, -List.map_append, -List.map_replicate, -List.reduceReplicate, noPtrL, noPtr, noPtrL_bsl, noPtrL_map, sub]
          · rfl
          · exact hK _
        iterate 1 (apply aops_step (by decide) rfl; · (intro K hK; simp (disch := first | omega | decide) only [go_sem, f0, f1, f2, hli, ha, zp, zs, ze, zg, zh, zi, cellsOf_ch, cellsOf_lsa, chE_dec, ne_eq, not_true_eq_false]; exact hK _))
        refine aops_nil ?_
        apply AW.cond
        · simp (disch := first | omega | decide) only [go_sem, f0, f1, f2, hli, ha, zp, zs, ze, zg, zh, zi, cellsOf_ch, cellsOf_lsa, chE_dec, ne_eq, not_true_eq_false]; rfl
        case hf => intro hb; simp at hb
        case ht =>
        intro hb
        have hbt44 := hb
        refine AW.seq ?_
        refine AW.region (cfg := cfg) ?_
        iterate 8 (apply aops_step (by decide) rfl; · (intro K hK; simp (disch := first | omega | decide) only [go_sem, f0, f1, f2, hli, ha, zp, zs, ze, zg, zh, zi, List.map, List.length_map, aops_len u25, cellsOf_ch, cellsOf_lsa, chE_dec, ne_eq, not_true_eq_false]; exact hK _))
        apply aops_step (by decide) rfl
        · intro K hK
          simp (disch := first | omega | decide) only [go_sem, f0, f1, f2, hli, ha, zp, zs, ze, zg, zh, zi, act_call, List.map, cellsOf_ch, cellsOf_lsa, chE_dec, ne_eq, not_true_eq_false]
          apply mwp_call_s rfl rfl rfl
          · intro Q hQ
            (simp (disch := first | omega | decide) only [go_sem, f0, f1, f2, hli, ha, zp, zs, ze, zg, zh, zi, peekL, reifyL_nil, reifyL_cons, reify_v, cellsOf_ch, cellsOf_lsa, chE_dec, ne_eq, not_true_eq_false]; (exact hQ))
          · exact good_awake
          · simp [-List.map_take, -List.map_drop, -List.map_append, -List.map_replicate, -List.reduceReplicate, noPtrL, noPtr, noPtrL_bsl, noPtrL_map, sub]
          · rfl
          · exact hK _
        iterate 2 (apply aops_step (by decide) rfl; · (intro K hK; simp (disch := first | omega | decide) only [go_sem, f0, f1, f2, hli, ha, zp, zs, ze, zg, zh, zi, cellsOf_ch, cellsOf_lsa, chE_dec, ne_eq, not_true_eq_false]; exact hK _))
        refine aops_nil ?_
        refine AW.ret ?_
        refine ⟨.inr rfl, ?_⟩
        apply Exists.intro
        refine leaves_tmp1 6 rfl ?_ (by rfl)
        simp (disch := first | omega | decide) only [go_sem, f0, f1, f2, hli, ha, zp, zs, ze, zg, zh, zi, cellsOf_ch, cellsOf_lsa, chE_dec, ne_eq, not_true_eq_false]
        all_goals rfl
      · skip
        have zp : putOK l = true := (by rw [putOK, Bool.and_comm]; exact ha)
        obtain ⟨zs, ze⟩ := put_yes zp
        obtain ⟨ha1, ha2⟩ := Bool.and_eq_true_iff.1 ha
        obtain ⟨zg, zh, zi⟩ := opt_yes (chGet_back ha1 ha2)
        refine AW.region (cfg := cfg) ?_
        iterate 1 (apply aops_step (by decide) rfl; · (intro K hK; simp (disch := first | omega | decide) only [go_sem, f0, f1, f2, hli, ha, zp, zs, ze, zg, zh, zi, cellsOf_ch, cellsOf_lsa, chE_dec, ne_eq, not_true_eq_false]; exact hK _))
        apply aops_step (by decide) rfl
        · intro K hK
          simp (disch := first | omega | decide) only [go_sem, f0, f1, f2, hli, ha, zp, zs, ze, zg, zh, zi, act_call, List.map, cellsOf_ch, cellsOf_lsa, chE_dec, ne_eq, not_true_eq_false]
          apply mwp_call_s rfl rfl rfl
          · intro Q hQ
            (simp (disch := first | omega | decide) only [go_sem, f0, f1, f2, hli, ha, zp, zs, ze, zg, zh, zi, peekL, reifyL_nil, reifyL_cons, reify_v, cellsOf_ch, cellsOf_lsa, chE_dec, ne_eq, not_true_eq_false]; (exact hQ))
          · exact good_refAllC nil l (by omega) pl
          · simp [-List.map_take, -List.map_drop, -List.map_append, -List.map_replicate, -List.reduceReplicate, noPtrL, noPtr, noPtrL_bsl, noPtrL_map, sub]
          · rfl
          · exact hK _
        iterate 1 (apply aops_step (by decide) rfl; · (intro K hK; simp (disch := first | omega | decide) only [go_sem, f0, f1, f2, hli, ha, zp, zs, ze, zg, zh, zi, cellsOf_ch, cellsOf_lsa, chE_dec, ne_eq, not_true_eq_false]; exact hK _))
        refine aops_nil ?_
        apply AW.cond
        · simp (disch := first | omega | decide) only [go_sem, f0, f1, f2, hli, ha, zp, zs, ze, zg, zh, zi, cellsOf_ch, cellsOf_lsa, chE_dec, ne_eq, not_true_eq_false]; rfl
        case ht => intro hb; simp at hb
        case hf =>
        intro hb
        have hbt44 := hb
        refine AW.skip ?_
        refine AW.seq ?_
        have pbl := putB_len ha1 lb1
        have hne := norm_eq l
        have hls : ∀ x ∈ l.map norm, x.l.ls.length ≤ 9223372036854775807 := fun x hx => by (obtain ⟨y, hy, rfl⟩ := List.mem_map.1 hx; have := lb2 y hy; show y.l.ls.length ≤ _; omega)
        refine AW.region (cfg := cfg) ?_
        iterate 1 (apply aops_step (by decide) rfl; · (intro K hK; simp (disch := first | omega | decide) only [go_sem, f0, f1, f2, hli, ha, zp, zs, ze, zg, zh, zi, hne, cellsOf_ch, cellsOf_lsa, chE_dec, ne_eq, not_true_eq_false]; exact hK _))
        apply aops_step (by decide) rfl
        · intro K hK
          simp (disch := first | omega | decide) only [go_sem, f0, f1, f2, hli, ha, zp, zs, ze, zg, zh, zi, hne, act_call, List.map, cellsOf_ch, cellsOf_lsa, chE_dec, ne_eq, not_true_eq_false]
          apply mwp_call_r rfl rfl rfl
          · intro Q hQ
            (simp (disch := first | omega | decide) only [go_sem, f0, f1, f2, hli, ha, zp, zs, ze, zg, zh, zi, hne, peekL, reifyL_nil, reifyL_cons, reify_v, cellsOf_ch, cellsOf_lsa, chE_dec, ne_eq, not_true_eq_false]; (exact hQ))
          · exact good_GetC false (putB l) (by omega) (by simp)
          · simp [-List.map_take, -List.map_drop, -List.map_append, -List.map_replicate, -List.reduceReplicate, noPtrL, noPtr, noPtrL_bsl, noPtrL_map, sub]
          · simp (disch := first | omega | decide) only [go_sem, f0, f1, f2, hli, ha, zp, zs, ze, zg, zh, zi, hne, cellsOf_ch, cellsOf_lsa, chE_dec, ne_eq, not_true_eq_false]
            exact hK _
        iterate 5 (apply aops_step (by decide) rfl; · (intro K hK; simp (disch := first | omega | decide) only [go_sem, f0, f1, f2, hli, ha, zp, zs, ze, zg, zh, zi, hne, cellsOf_ch, cellsOf_lsa, chE_dec, ne_eq, not_true_eq_false]; exact hK _))
        refine aops_nil ?_
        refine AW.seq ?_
        refine AW.region (cfg := cfg) ?_
        iterate 5 (apply aops_step (by decide) rfl; · (intro K hK; simp (disch := first | omega | decide) only [go_sem, f0, f1, f2, hli, ha, zp, zs, ze, zg, zh, zi, hne, cellsOf_ch, cellsOf_lsa, chE_dec, ne_eq, not_true_eq_false]; exact hK _))
        apply aops_step (by decide) rfl
        · intro K hK
          simp (disch := first | omega | decide) only [go_sem, f0, f1, f2, hli, ha, zp, zs, ze, zg, zh, zi, hne, act_call, List.map, cellsOf_ch, cellsOf_lsa, chE_dec, ne_eq, not_true_eq_false]
          apply mwp_call_r rfl rfl rfl
          · intro Q hQ
            (simp (disch := first | omega | decide) only [go_sem, f0, f1, f2, hli, ha, zp, zs, ze, zg, zh, zi, hne, peekL, reifyL_nil, reifyL_cons, reify_v, cellsOf_ch, cellsOf_lsa, chE_dec, ne_eq, not_true_eq_false]; (exact hQ))
          · exact good_refPutC nil l (by omega) pl ha1 lb1
          · simp [-List.map_take, -List.map_drop, -List.map_append, -List.map_replicate, -List.reduceReplicate, noPtrL, noPtr, noPtrL_bsl, noPtrL_map, sub]
          · simp (disch := first | omega | decide) only [go_sem, f0, f1, f2, hli, ha, zp, zs, ze, zg, zh, zi, hne, cellsOf_ch, cellsOf_lsa, chE_dec, ne_eq, not_true_eq_false]
            exact hK _
        apply aops_step (by decide) rfl
        · intro K hK
          simp (disch := first | omega | decide) only [go_sem, f0, f1, f2, hli, ha, zp, zs, ze, zg, zh, zi, hne, act_call, List.map, cellsOf_ch, cellsOf_lsa, chE_dec, ne_eq, not_true_eq_false]
          apply mwp_call_s rfl rfl rfl
          · intro Q hQ
            (simp (disch := first | omega | decide) only [go_sem, f0, f1, f2, hli, ha, zp, zs, ze, zg, zh, zi, hne, peekL, reifyL_nil, reifyL_cons, reify_v, cellsOf_ch, cellsOf_lsa, chE_dec, ne_eq, not_true_eq_false]; (exact hQ))
          · exact O.good_Same false false (putB l) (putB l) (by omega) (by omega)
          · simp [-List.map_take, -List.map_drop, -List.map_append, -List.map_replicate, -List.reduceReplicate, noPtrL, noPtr, noPtrL_bsl, noPtrL_map, sub]
          · rfl
          · exact hK _
        iterate 8 (apply aops_step (by decide) rfl; · (intro K hK; simp (disch := first | omega | decide) only [go_sem, f0, f1, f2, hli, ha, zp, zs, ze, zg, zh, zi, hne, cellsOf_ch, cellsOf_lsa, chE_dec, ne_eq, not_true_eq_false]; exact hK _))
        apply aops_step (by decide) rfl
        · intro K hK
          simp (disch := first | omega | decide) only [go_sem, f0, f1, f2, hli, ha, zp, zs, ze, zg, zh, zi, hne, act_call, List.map, cellsOf_ch, cellsOf_lsa, chE_dec, ne_eq, not_true_eq_false]
          apply mwp_call_s rfl rfl rfl
          · intro Q hQ
            (simp (disch := first | omega | decide) only [go_sem, f0, f1, f2, hli, ha, zp, zs, ze, zg, zh, zi, hne, peekL, reifyL_nil, reifyL_cons, reify_v, cellsOf_ch, cellsOf_lsa, chE_dec, ne_eq, not_true_eq_false]; (exact hQ))
          · exact good_ListsC false nil (l.map norm) l (by rw [List.length_map]; omega) (by omega) hls pl
          · simp [-List.map_take, -List.map_drop, -List.map_append, -List.map_replicate, -List.reduceReplicate, noPtrL, noPtr, noPtrL_bsl, noPtrL_map, sub]
          · rfl
          · exact hK _
        iterate 2 (apply aops_step (by decide) rfl; · (intro K hK; simp (disch := first | omega | decide) only [go_sem, f0, f1, f2, hli, ha, zp, zs, ze, zg, zh, zi, hne, cellsOf_ch, cellsOf_lsa, chE_dec, ne_eq, not_true_eq_false]; exact hK _))
        apply aops_step (by decide) rfl
        · intro K hK
          simp (disch := first | omega | decide) only [go_sem, f0, f1, f2, hli, ha, zp, zs, ze, zg, zh, zi, hne, act_call, List.map, cellsOf_ch, cellsOf_lsa, chE_dec, ne_eq, not_true_eq_false]
          apply mwp_call_s rfl rfl rfl
          · intro Q hQ
            (simp (disch := first | omega | decide) only [go_sem, f0, f1, f2, hli, ha, zp, zs, ze, zg, zh, zi, hne, peekL, reifyL_nil, reifyL_cons, reify_v, cellsOf_ch, cellsOf_lsa, chE_dec, ne_eq, not_true_eq_false]; (exact hQ))
          · exact good_awake
          · simp [-List.map_take, -List.map_drop, -List.map_append, -List.map_replicate, -List.reduceReplicate, noPtrL, noPtr, noPtrL_bsl, noPtrL_map, sub]
          · rfl
          · exact hK _
        iterate 2 (apply aops_step (by decide) rfl; · (intro K hK; simp (disch := first | omega | decide) only [go_sem, f0, f1, f2, hli, ha, zp, zs, ze, zg, zh, zi, hne, cellsOf_ch, cellsOf_lsa, chE_dec, ne_eq, not_true_eq_false]; exact hK _))
        refine aops_nil ?_
        refine AW.ret ?_
        refine ⟨.inr rfl, ?_⟩
        apply Exists.intro
        refine leaves_tmp1 6 rfl ?_ (by rfl)
        simp (disch := first | omega | decide) only [go_sem, f0, f1, f2, hli, ha, zp, zs, ze, zg, zh, zi, hne, cellsOf_ch, cellsOf_lsa, chE_dec, ne_eq, not_true_eq_false]
        all_goals first | done | rfl | trace_state

end Go.Vai.C
