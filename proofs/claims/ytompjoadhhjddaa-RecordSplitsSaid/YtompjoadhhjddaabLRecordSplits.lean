import Derived.Test.YtompjoadhhjddaabRec6
namespace Go.Vai.R
open Go.Proofs Go.Vai Go.Vai.G Go.Vai.L Go.Vai.O Go.Vai.U Go.Vai.Z
set_option linter.unusedSimpArgs false
set_option linter.unusedVariables false

set_option maxHeartbeats 4000000 in
set_option maxRecDepth 100000 in
theorem good_RecordSplits (p : Page) (hp : p.b.length ≤ 9223372036854775807) (hxp : -9223372036854775808 ≤ p.idx ∧ p.idx ≤ 9223372036854775807) (nil : Bool) (b : List (BitVec 8)) (hb0 : b.length ≤ 9223372036854775807) (hz : nil = true → b = []) (nm : Bool) (more : List Page) (hm : more.length ≤ 9223372036854775807) (n : Int) (hn : -9223372036854775808 ≤ n ∧ n ≤ 9223372036854775807) : Good Try.prog 6 [(pageA p, false), (.sl 1 nil (bsl b), false), (.agg [.sl 7 nm (more.map pageA), i64 n], false)] [] [(.b true, false)] [] := by
  refine good_of_body4 119 Try.func6 rfl rfl rfl (by simp) (by simp) (by simp [noPtrL, noPtr]) (by rfl) ?_
  intro s m ha hr hv hG
  have f0 : s 0 = .v (.agg [i64 p.kind, i64 p.gen, i64 p.mark, i64 p.idx, i64 p.part, i64 p.parts, .sl 1 p.nil (bsl p.b)]) := ha 0 _ rfl
  have f1 : s 1 = .v (.sl 1 nil (bsl b)) := ha 1 _ rfl
  have f2 : s 2 = .v (.agg [.sl 7 nm (more.map pageA), i64 n]) := ha 2 _ rfl
  clear ha
  refine AW.seq ?_
  refine AW.region (cfg := cfg) ?_
  apply aops_step (by decide) rfl
  · intro K hK
    simp (disch := first | omega | decide) only [go_sem, f0, f1, f2, act_box_t ti47, List.map, cellsOf_page, ne_eq, not_true_eq_false]
    rw [settleL_vish _ _ (by rfl)]
    simp (disch := first | omega | decide) only [go_sem, f0, f1, f2, cellsL, List.map, List.length_cons, List.length_nil, Nat.reduceAdd, if_true, cellsOf_page, ne_eq, not_true_eq_false]
    exact hK _
  apply aops_step (by decide) rfl
  · intro K hK
    simp (disch := first | omega | decide) only [go_sem, f0, f1, f2, act_box_t ti50, List.map, cellsOf_page, ne_eq, not_true_eq_false]
    rw [settleL_vish _ _ (by rfl)]
    simp (disch := first | omega | decide) only [go_sem, f0, f1, f2, cellsL, List.map, List.length_cons, List.length_nil, Nat.reduceAdd, if_true, cellsOf_page, ne_eq, not_true_eq_false]
    exact hK _
  iterate 1 (apply aops_step (by decide) rfl; · (intro K hK; simp (disch := first | omega | decide) only [go_sem, f0, f1, f2, cellsOf_page, ne_eq, not_true_eq_false]; exact hK _))
  refine aops_nil ?_
  refine AW.seq ?_
  refine AW.draw (cfg := cfg) (by kernel_rfl) (by kernel_rfl) (by kernel_rfl) ?_
  apply adraw_step rfl
  · intro K hK
    simp (disch := first | omega | decide) only [go_sem, f0, f1, f2, act_fieldAddr_t fo50_0, List.map, cellsOf_page, ne_eq, not_true_eq_false]
    rw [mwp_fieldAddr_b (by simp (disch := first | omega | decide) only [go_sem, f0, f1, f2, cellsOf_page, ne_eq, not_true_eq_false]; rfl)]
    exact hK
  apply adraw_step rfl
  · intro K hK
    simp (disch := first | omega | decide) only [go_sem, f0, f1, f2, act_load_t ti48, List.map, cellsOf_page, ne_eq, not_true_eq_false]
    rw [mwp_load_b1 (by simp (disch := first | omega | decide) only [go_sem, f0, f1, f2, cellsOf_page, ne_eq, not_true_eq_false]; rfl) (by rfl)]
    exact hK
  apply adraw_step rfl
  · intro K hK
    simp (disch := first | omega | decide) only [go_sem, f0, f1, f2, act_fieldAddr_t fo50_1, List.map, cellsOf_page, ne_eq, not_true_eq_false]
    rw [mwp_fieldAddr_b (by simp (disch := first | omega | decide) only [go_sem, f0, f1, f2, cellsOf_page, ne_eq, not_true_eq_false]; rfl)]
    exact hK
  apply adraw_step rfl
  · intro K hK
    simp (disch := first | omega | decide) only [go_sem, f0, f1, f2, act_load_t ti3, List.map, cellsOf_page, ne_eq, not_true_eq_false]
    rw [mwp_load_b1 (by simp (disch := first | omega | decide) only [go_sem, f0, f1, f2, cellsOf_page, ne_eq, not_true_eq_false]; rfl) (by rfl)]
    exact hK
  iterate 2 (apply adraw_step rfl; · (intro K hK; simp (disch := first | omega | decide) only [go_sem, f0, f1, f2, cellsOf_page, ne_eq, not_true_eq_false]; exact hK))
  refine adraw_nil (by kernel_rfl) ?_
  refine AW.seq ?_
  refine AW.seq ?_
  refine AW.region (cfg := cfg) ?_
  iterate 4 (apply aops_step (by decide) rfl; · (intro K hK; simp (disch := first | omega | decide) only [go_sem, f0, f1, f2, List.map, List.length_map, aops_len u25, cellsOf_page, ne_eq, not_true_eq_false]; exact hK _))
  apply aops_merge' (by decide) (by exact want_of (d := 21) rfl (by simp (disch := first | omega | decide) only [go_sem, f0, f1, f2, opn_cond, cellsOf_page, ne_eq, not_true_eq_false]; rfl))
  · intro hc K hK
    have hc2 := hc
    simp only [beq_iff_eq, decide_eq_true_eq, decide_eq_false_iff_not, Bool.or_eq_true, Bool.and_eq_true, Bool.or_eq_false_iff, Bool.and_eq_false_iff] at hc2
    simp (disch := first | omega | decide) only [go_sem, f0, f1, f2, opn_cond, hc, if_true, act_fieldAddr_t fo47_6, cellsOf_page, ne_eq, not_true_eq_false]
    rw [mwp_fieldAddr_b (by simp (disch := first | omega | decide) only [go_sem, f0, f1, f2, opn_cond, hc, if_true, cellsOf_page, ne_eq, not_true_eq_false]; rfl)]
    exact hK _
  apply aops_merge' (by decide) (by exact want_of (d := 21) rfl (by simp (disch := first | omega | decide) only [go_sem, f0, f1, f2, opn_cond, cellsOf_page, ne_eq, not_true_eq_false]; rfl))
  · intro hc K hK
    have hc2 := hc
    simp only [beq_iff_eq, decide_eq_true_eq, decide_eq_false_iff_not, Bool.or_eq_true, Bool.and_eq_true, Bool.or_eq_false_iff, Bool.and_eq_false_iff] at hc2
    simp (disch := first | omega | decide) only [go_sem, f0, f1, f2, opn_cond, hc, if_true, act_load_t ti25, cellsOf_page, ne_eq, not_true_eq_false]
    rw [mwp_load_b1 (by simp (disch := first | omega | decide) only [go_sem, f0, f1, f2, opn_cond, hc, if_true, cellsOf_page, ne_eq, not_true_eq_false]; rfl) (by rfl)]
    exact hK _
  apply aops_merge' (by decide) (by exact want_of (d := 21) rfl (by simp (disch := first | omega | decide) only [go_sem, f0, f1, f2, opn_cond, cellsOf_page, ne_eq, not_true_eq_false]; rfl))
  · intro hc K hK
    have hc2 := hc
    simp only [beq_iff_eq, decide_eq_true_eq, decide_eq_false_iff_not, Bool.or_eq_true, Bool.and_eq_true, Bool.or_eq_false_iff, Bool.and_eq_false_iff] at hc2
    simp (disch := first | omega | decide) only [go_sem, f0, f1, f2, opn_cond, hc, if_true, List.map, List.length_map, aops_len u25, cellsOf_page, ne_eq, not_true_eq_false]
    exact hK _
  apply aops_merge' (by decide) (by exact want_of (d := 21) rfl (by simp (disch := first | omega | decide) only [go_sem, f0, f1, f2, opn_cond, cellsOf_page, ne_eq, not_true_eq_false]; rfl))
  · intro hc K hK
    have hc2 := hc
    simp only [beq_iff_eq, decide_eq_true_eq, decide_eq_false_iff_not, Bool.or_eq_true, Bool.and_eq_true, Bool.or_eq_false_iff, Bool.and_eq_false_iff] at hc2
    simp (disch := first | omega | decide) only [go_sem, f0, f1, f2, opn_cond, hc, if_true, cellsOf_page, ne_eq, not_true_eq_false]
    exact hK _
  iterate 2 (apply aops_step (by decide) rfl; · (intro K hK; simp (disch := first | omega | decide) only [go_sem, f0, f1, f2, cellsOf_page, ne_eq, not_true_eq_false]; exact hK _))
  apply aops_merge' (by decide) (by exact want_of (d := 27) rfl (by simp (disch := first | omega | decide) only [go_sem, f0, f1, f2, opn_cond, cellsOf_page, ne_eq, not_true_eq_false]; rfl))
  · intro hc K hK
    have hc2 := hc
    simp only [beq_iff_eq, decide_eq_true_eq, decide_eq_false_iff_not, Bool.or_eq_true, Bool.and_eq_true, Bool.or_eq_false_iff, Bool.and_eq_false_iff] at hc2
    simp (disch := first | omega | decide) only [go_sem, f0, f1, f2, opn_cond, hc, if_true, cellsOf_page, ne_eq, not_true_eq_false]
    exact hK _
  apply aops_merge' (by decide) (by exact want_of (d := 27) rfl (by simp (disch := first | omega | decide) only [go_sem, f0, f1, f2, opn_cond, cellsOf_page, ne_eq, not_true_eq_false]; rfl))
  · intro hc K hK
    have hc2 := hc
    simp only [beq_iff_eq, decide_eq_true_eq, decide_eq_false_iff_not, Bool.or_eq_true, Bool.and_eq_true, Bool.or_eq_false_iff, Bool.and_eq_false_iff] at hc2
    simp (disch := first | omega | decide) only [go_sem, f0, f1, f2, opn_cond, hc, if_true, act_call, List.map, cellsOf_page, ne_eq, not_true_eq_false]
    apply mwp_call_s rfl rfl rfl
    · intro Q hQ
      (simp (disch := first | omega | decide) only [go_sem, f0, f1, f2, opn_cond, hc, if_true, peekL, reifyL_nil, reifyL_cons, reify_v, cellsOf_page, ne_eq, not_true_eq_false]; (exact hQ))
    · exact good_light nm more (by omega)
    · simp [-List.map_take, -List.map_drop, -List.map_append, -List.map_replicate, -List.reduceReplicate, noPtrL, noPtr, noPtrL_bsl, noPtrL_map, sub]
    · rfl
    · exact hK _
  apply aops_merge' (by decide) (by exact want_of (d := 27) rfl (by simp (disch := first | omega | decide) only [go_sem, f0, f1, f2, opn_cond, cellsOf_page, ne_eq, not_true_eq_false]; rfl))
  · intro hc K hK
    have hc2 := hc
    simp only [beq_iff_eq, decide_eq_true_eq, decide_eq_false_iff_not, Bool.or_eq_true, Bool.and_eq_true, Bool.or_eq_false_iff, Bool.and_eq_false_iff] at hc2
    simp (disch := first | omega | decide) only [go_sem, f0, f1, f2, opn_cond, hc, if_true, cellsOf_page, ne_eq, not_true_eq_false]
    exact hK _
  iterate 1 (apply aops_step (by decide) rfl; · (intro K hK; simp (disch := first | omega | decide) only [go_sem, f0, f1, f2, cellsOf_page, ne_eq, not_true_eq_false]; exact hK _))
  refine aops_nil ?_
  apply AW.cond
  · simp (disch := first | omega | decide) only [go_sem, f0, f1, f2, cellsOf_page, ne_eq, not_true_eq_false]; rfl
  case ht =>
    intro hb
    try simp only [Bool.or_eq_true, Bool.and_eq_true, Bool.or_eq_false_iff, Bool.and_eq_false_iff, decide_eq_true_eq, decide_eq_false_iff_not] at hb
    have hbt31 := hb
    refine AW.seq ?_
    refine AW.region (cfg := cfg) ?_
    apply aops_step (by decide) rfl
    · intro K hK
      simp (disch := first | omega | decide) only [go_sem, f0, f1, f2, act_call, List.map, cellsOf_page, ne_eq, not_true_eq_false]
      apply mwp_call_s rfl rfl rfl
      · intro Q hQ
        (simp (disch := first | omega | decide) only [go_sem, f0, f1, f2, peekL, reifyL_nil, reifyL_cons, reify_v, cellsOf_page, ne_eq, not_true_eq_false]; (exact hQ))
      · exact good_awake
      · simp [-List.map_take, -List.map_drop, -List.map_append, -List.map_replicate, -List.reduceReplicate, noPtrL, noPtr, noPtrL_bsl, noPtrL_map, sub]
      · rfl
      · exact hK _
    iterate 1 (apply aops_step (by decide) rfl; · (intro K hK; simp (disch := first | omega | decide) only [go_sem, f0, f1, f2, cellsOf_page, ne_eq, not_true_eq_false]; exact hK _))
    refine aops_nil ?_
    refine AW.ret ?_
    refine ⟨.inr rfl, ?_⟩
    apply Exists.intro
    refine leaves_tmp1 6 rfl ?_ (by rfl)
    simp (disch := first | omega | decide) only [go_sem, f0, f1, f2, cellsOf_page, ne_eq, not_true_eq_false]
    all_goals first | done | rfl | trace_state
  case hf =>
    intro hb
    try simp only [Bool.or_eq_true, Bool.and_eq_true, Bool.or_eq_false_iff, Bool.and_eq_false_iff, decide_eq_true_eq, decide_eq_false_iff_not] at hb
    have hbt31 := hb
    refine AW.skip ?_
    refine AW.seq ?_
    refine AW.seq ?_
    obtain ⟨lb1, lb2⟩ := light_bd (l := more) (by simpa using hbt31.2)
    refine AW.region (cfg := cfg) ?_
    iterate 1 (apply aops_step (by decide) rfl; · (intro K hK; simp (disch := first | omega | decide) only [go_sem, f0, f1, f2, cellsOf_page, ne_eq, not_true_eq_false]; exact hK _))
    apply aops_step (by decide) rfl
    · intro K hK
      simp (disch := first | omega | decide) only [go_sem, f0, f1, f2, act_call, List.map, cellsOf_page, ne_eq, not_true_eq_false]
      apply mwp_call_s rfl rfl rfl
      · intro Q hQ
        (simp (disch := first | omega | decide) only [go_sem, f0, f1, f2, peekL, reifyL_nil, reifyL_cons, reify_v, cellsOf_page, ne_eq, not_true_eq_false]; (exact hQ))
      · exact good_Parts n hn
      · simp [-List.map_take, -List.map_drop, -List.map_append, -List.map_replicate, -List.reduceReplicate, noPtrL, noPtr, noPtrL_bsl, noPtrL_map, sub]
      · rfl
      · exact hK _
    iterate 1 (apply aops_step (by decide) rfl; · (intro K hK; simp (disch := first | omega | decide) only [go_sem, f0, f1, f2, cellsOf_page, ne_eq, not_true_eq_false]; exact hK _))
    apply aops_step (by decide) rfl
    · intro K hK
      simp (disch := first | omega | decide) only [go_sem, f0, f1, f2, act_call, List.map, cellsOf_page, ne_eq, not_true_eq_false]
      apply mwp_call_s rfl rfl rfl
      · intro Q hQ
        (simp (disch := first | omega | decide) only [go_sem, f0, f1, f2, peekL, reifyL_nil, reifyL_cons, reify_v, cellsOf_page, ne_eq, not_true_eq_false]; (exact hQ))
      · exact good_refParts n hn
      · simp [-List.map_take, -List.map_drop, -List.map_append, -List.map_replicate, -List.reduceReplicate, noPtrL, noPtr, noPtrL_bsl, noPtrL_map, sub]
      · rfl
      · exact hK _
    iterate 1 (apply aops_step (by decide) rfl; · (intro K hK; simp (disch := first | omega | decide) only [go_sem, f0, f1, f2, cellsOf_page, ne_eq, not_true_eq_false]; exact hK _))
    refine aops_nil ?_
    apply AW.cond
    · simp (disch := first | omega | decide) only [go_sem, f0, f1, f2, cellsOf_page, ne_eq, not_true_eq_false]; rfl
    case ht => intro hb; simp at hb
    case hf =>
    intro hb
    have hbt37 := hb
    refine AW.skip ?_
    refine AW.seq ?_
    refine AW.region (cfg := cfg) ?_
    apply aops_step (by decide) rfl
    · intro K hK
      simp (disch := first | omega | decide) only [go_sem, f0, f1, f2, act_load_t ti47, List.map, cellsOf_page, ne_eq, not_true_eq_false]
      rw [mwp_load_bs (by simp (disch := first | omega | decide) only [go_sem, f0, f1, f2, cellsOf_page, ne_eq, not_true_eq_false]; rfl) (by simp [setAt])]
      exact hK _
    iterate 1 (apply aops_step (by decide) rfl; · (intro K hK; simp (disch := first | omega | decide) only [go_sem, f0, f1, f2, cellsOf_page, ne_eq, not_true_eq_false]; exact hK _))
    apply aops_step (by decide) rfl
    · intro K hK
      simp (disch := first | omega | decide) only [go_sem, f0, f1, f2, act_call, List.map, cellsOf_page, ne_eq, not_true_eq_false]
      apply mwp_call_r rfl rfl rfl
      · intro Q hQ
        (simp (disch := first | omega | decide) only [go_sem, f0, f1, f2, peekL, reifyL_nil, reifyL_cons, reify_v, cellsOf_page, ne_eq, not_true_eq_false]; (exact hQ))
      · exact (good_Split p (by omega) nil b (by omega) hz).lend2
      · simp [-List.map_take, -List.map_drop, -List.map_append, -List.map_replicate, -List.reduceReplicate, noPtrL, noPtr, noPtrL_bsl, noPtrL_map, sub]
      · simp (disch := first | omega | decide) only [go_sem, f0, f1, f2, cellsOf_page, ne_eq, not_true_eq_false]
        exact hK _
    iterate 5 (apply aops_step (by decide) rfl; · (intro K hK; simp (disch := first | omega | decide) only [go_sem, f0, f1, f2, cellsOf_page, ne_eq, not_true_eq_false]; exact hK _))
    refine aops_nil ?_
    refine AW.seq ?_
    refine AW.seq ?_
    refine AW.region (cfg := cfg) ?_
    iterate 2 (apply aops_step (by decide) rfl; · (intro K hK; simp (disch := first | omega | decide) only [go_sem, f0, f1, f2, List.map, List.length_map, aops_len u25, cellsOf_page, ne_eq, not_true_eq_false]; exact hK _))
    apply aops_step (by decide) rfl
    · intro K hK
      simp (disch := first | omega | decide) only [go_sem, f0, f1, f2, act_call, List.map, cellsOf_page, ne_eq, not_true_eq_false]
      apply mwp_call_s rfl rfl rfl
      · intro Q hQ
        (simp (disch := first | omega | decide) only [go_sem, f0, f1, f2, peekL, reifyL_nil, reifyL_cons, reify_v, cellsOf_page, ne_eq, not_true_eq_false]; (exact hQ))
      · exact good_refParts (b.length : Int) (by omega)
      · simp [-List.map_take, -List.map_drop, -List.map_append, -List.map_replicate, -List.reduceReplicate, noPtrL, noPtr, noPtrL_bsl, noPtrL_map, sub]
      · rfl
      · exact hK _
    iterate 1 (apply aops_step (by decide) rfl; · (intro K hK; simp (disch := first | omega | decide) only [go_sem, f0, f1, f2, cellsOf_page, ne_eq, not_true_eq_false]; exact hK _))
    refine aops_nil ?_
    apply AW.cond
    · simp (disch := first | omega | decide) only [go_sem, f0, f1, f2, cellsOf_page, ne_eq, not_true_eq_false]; rfl
    case ht =>
      intro hb
      try simp only [Bool.or_eq_true, Bool.and_eq_true, Bool.or_eq_false_iff, Bool.and_eq_false_iff, decide_eq_true_eq, decide_eq_false_iff_not] at hb
      have hbt47 := hb
      refine AW.seq ?_
      obtain ⟨hs1, hs2, hs3⟩ := split_no0 (p := p) (nil := nil) (b := b) hbt47
      refine AW.region (cfg := cfg) ?_
      iterate 8 (apply aops_step (by decide) rfl; · (intro K hK; simp (disch := first | omega | decide) only [go_sem, f0, f1, f2, hs1, hs2, hs3, List.map, List.length_map, aops_len u48, cellsOf_page, ne_eq, not_true_eq_false]; exact hK _))
      apply aops_step (by decide) rfl
      · intro K hK
        simp (disch := first | omega | decide) only [go_sem, f0, f1, f2, hs1, hs2, hs3, act_call, List.map, cellsOf_page, ne_eq, not_true_eq_false]
        apply mwp_call_s rfl rfl rfl
        · intro Q hQ
          (simp (disch := first | omega | decide) only [go_sem, f0, f1, f2, hs1, hs2, hs3, peekL, reifyL_nil, reifyL_cons, reify_v, cellsOf_page, ne_eq, not_true_eq_false]; (exact hQ))
        · exact good_awake
        · simp [-List.map_take, -List.map_drop, -List.map_append, -List.map_replicate, -List.reduceReplicate, noPtrL, noPtr, noPtrL_bsl, noPtrL_map, sub]
        · rfl
        · exact hK _
      iterate 2 (apply aops_step (by decide) rfl; · (intro K hK; simp (disch := first | omega | decide) only [go_sem, f0, f1, f2, hs1, hs2, hs3, cellsOf_page, ne_eq, not_true_eq_false]; exact hK _))
      refine aops_nil ?_
      refine AW.ret ?_
      refine ⟨.inr rfl, ?_⟩
      apply Exists.intro
      refine leaves_tmp1 6 rfl ?_ (by rfl)
      simp (disch := first | omega | decide) only [go_sem, f0, f1, f2, hs1, hs2, hs3, cellsOf_page, ne_eq, not_true_eq_false]
      all_goals rfl
    case hf =>
      intro hb
      try simp only [Bool.or_eq_true, Bool.and_eq_true, Bool.or_eq_false_iff, Bool.and_eq_false_iff, decide_eq_true_eq, decide_eq_false_iff_not] at hb
      have hbt47 := hb
      refine AW.skip ?_
      refine AW.seq ?_
      refine AW.seq ?_
      obtain ⟨e1, e2, e3⟩ := sp_pos hbt47
      rcases sp_way p b with h1 | ⟨h1, hi1⟩ | ⟨h1, hi1, ha⟩ | ⟨h1, hi1, ha⟩
      · skip
        have hi1 := d00
        have ha := d00
        obtain ⟨hs1, hs2, hs3⟩ := split_out (nil := nil) (b := b) hbt47 (Or.inl h1)
        obtain ⟨e1, e2, e3⟩ := sp_pos hbt47
        refine AW.region (cfg := cfg) ?_
        apply aops_step (by decide) rfl
        · intro K hK
          simp (disch := first | omega | decide) only [go_sem, f0, f1, f2, h1, hi1, ha, hs1, hs2, hs3, act_fieldAddr_t fo47_3, List.map, cellsOf_page, ne_eq, not_true_eq_false]
          rw [mwp_fieldAddr_b (by simp (disch := first | omega | decide) only [go_sem, f0, f1, f2, h1, hi1, ha, hs1, hs2, hs3, cellsOf_page, ne_eq, not_true_eq_false]; rfl)]
          exact hK _
        apply aops_step (by decide) rfl
        · intro K hK
          simp (disch := first | omega | decide) only [go_sem, f0, f1, f2, h1, hi1, ha, hs1, hs2, hs3, act_load_t ti3, List.map, cellsOf_page, ne_eq, not_true_eq_false]
          rw [mwp_load_b1 (by simp (disch := first | omega | decide) only [go_sem, f0, f1, f2, h1, hi1, ha, hs1, hs2, hs3, cellsOf_page, ne_eq, not_true_eq_false]; rfl) (by rfl)]
          exact hK _
        iterate 2 (apply aops_step (by decide) rfl; · (intro K hK; simp (disch := first | omega | decide) only [go_sem, f0, f1, f2, h1, hi1, ha, hs1, hs2, hs3, cellsOf_page, ne_eq, not_true_eq_false]; exact hK _))
        apply aops_skip' (by decide) rfl
        apply aops_skip' (by decide) rfl
        apply aops_skip' (by decide) rfl
        iterate 2 (apply aops_step (by decide) rfl; · (intro K hK; simp (disch := first | omega | decide) only [go_sem, f0, f1, f2, h1, hi1, ha, hs1, hs2, hs3, cellsOf_page, ne_eq, not_true_eq_false]; exact hK _))
        apply aops_skip' (by decide) rfl
        apply aops_skip' (by decide) rfl
        apply aops_skip' (by decide) rfl
        apply aops_skip' (by decide) rfl
        apply aops_skip' (by decide) rfl
        iterate 1 (apply aops_step (by decide) rfl; · (intro K hK; simp (disch := first | omega | decide) only [go_sem, f0, f1, f2, h1, hi1, ha, hs1, hs2, hs3, cellsOf_page, ne_eq, not_true_eq_false]; exact hK _))
        refine aops_nil ?_
        apply AW.cond
        · simp (disch := first | omega | decide) only [go_sem, f0, f1, f2, h1, hi1, ha, hs1, hs2, hs3, cellsOf_page, ne_eq, not_true_eq_false]; rfl
        case hf => intro hb; simp at hb
        case ht =>
        intro hb
        have hbt72 := hb
        refine AW.seq ?_
        refine AW.region (cfg := cfg) ?_
        iterate 8 (apply aops_step (by decide) rfl; · (intro K hK; simp (disch := first | omega | decide) only [go_sem, f0, f1, f2, h1, hi1, ha, hs1, hs2, hs3, List.map, List.length_map, aops_len u48, cellsOf_page, ne_eq, not_true_eq_false]; exact hK _))
        apply aops_step (by decide) rfl
        · intro K hK
          simp (disch := first | omega | decide) only [go_sem, f0, f1, f2, h1, hi1, ha, hs1, hs2, hs3, act_call, List.map, cellsOf_page, ne_eq, not_true_eq_false]
          apply mwp_call_s rfl rfl rfl
          · intro Q hQ
            (simp (disch := first | omega | decide) only [go_sem, f0, f1, f2, h1, hi1, ha, hs1, hs2, hs3, peekL, reifyL_nil, reifyL_cons, reify_v, cellsOf_page, ne_eq, not_true_eq_false]; (exact hQ))
          · exact good_awake
          · simp [-List.map_take, -List.map_drop, -List.map_append, -List.map_replicate, -List.reduceReplicate, noPtrL, noPtr, noPtrL_bsl, noPtrL_map, sub]
          · rfl
          · exact hK _
        iterate 2 (apply aops_step (by decide) rfl; · (intro K hK; simp (disch := first | omega | decide) only [go_sem, f0, f1, f2, h1, hi1, ha, hs1, hs2, hs3, cellsOf_page, ne_eq, not_true_eq_false]; exact hK _))
        refine aops_nil ?_
        refine AW.ret ?_
        refine ⟨.inr rfl, ?_⟩
        apply Exists.intro
        refine leaves_tmp1 6 rfl ?_ (by rfl)
        simp (disch := first | omega | decide) only [go_sem, f0, f1, f2, h1, hi1, ha, hs1, hs2, hs3, cellsOf_page, ne_eq, not_true_eq_false]
        all_goals rfl
      · skip
        have ha := d00
        obtain ⟨hs1, hs2, hs3⟩ := split_out (nil := nil) (b := b) hbt47 (Or.inr hi1)
        obtain ⟨e1, e2, e3⟩ := sp_pos hbt47
        refine AW.region (cfg := cfg) ?_
        apply aops_step (by decide) rfl
        · intro K hK
          simp (disch := first | omega | decide) only [go_sem, f0, f1, f2, h1, hi1, ha, hs1, hs2, hs3, act_fieldAddr_t fo47_3, List.map, cellsOf_page, ne_eq, not_true_eq_false]
          rw [mwp_fieldAddr_b (by simp (disch := first | omega | decide) only [go_sem, f0, f1, f2, h1, hi1, ha, hs1, hs2, hs3, cellsOf_page, ne_eq, not_true_eq_false]; rfl)]
          exact hK _
        apply aops_step (by decide) rfl
        · intro K hK
          simp (disch := first | omega | decide) only [go_sem, f0, f1, f2, h1, hi1, ha, hs1, hs2, hs3, act_load_t ti3, List.map, cellsOf_page, ne_eq, not_true_eq_false]
          rw [mwp_load_b1 (by simp (disch := first | omega | decide) only [go_sem, f0, f1, f2, h1, hi1, ha, hs1, hs2, hs3, cellsOf_page, ne_eq, not_true_eq_false]; rfl) (by rfl)]
          exact hK _
        iterate 2 (apply aops_step (by decide) rfl; · (intro K hK; simp (disch := first | omega | decide) only [go_sem, f0, f1, f2, h1, hi1, ha, hs1, hs2, hs3, cellsOf_page, ne_eq, not_true_eq_false]; exact hK _))
        apply aops_step (by decide) rfl
        · intro K hK
          simp (disch := first | omega | decide) only [go_sem, f0, f1, f2, h1, hi1, ha, hs1, hs2, hs3, act_fieldAddr_t fo47_3, List.map, cellsOf_page, ne_eq, not_true_eq_false]
          rw [mwp_fieldAddr_b (by simp (disch := first | omega | decide) only [go_sem, f0, f1, f2, h1, hi1, ha, hs1, hs2, hs3, cellsOf_page, ne_eq, not_true_eq_false]; rfl)]
          exact hK _
        apply aops_step (by decide) rfl
        · intro K hK
          simp (disch := first | omega | decide) only [go_sem, f0, f1, f2, h1, hi1, ha, hs1, hs2, hs3, act_load_t ti3, List.map, cellsOf_page, ne_eq, not_true_eq_false]
          rw [mwp_load_b1 (by simp (disch := first | omega | decide) only [go_sem, f0, f1, f2, h1, hi1, ha, hs1, hs2, hs3, cellsOf_page, ne_eq, not_true_eq_false]; rfl) (by rfl)]
          exact hK _
        iterate 3 (apply aops_step (by decide) rfl; · (intro K hK; simp (disch := first | omega | decide) only [go_sem, f0, f1, f2, h1, hi1, ha, hs1, hs2, hs3, cellsOf_page, ne_eq, not_true_eq_false]; exact hK _))
        apply aops_skip' (by decide) rfl
        apply aops_skip' (by decide) rfl
        apply aops_skip' (by decide) rfl
        apply aops_skip' (by decide) rfl
        apply aops_skip' (by decide) rfl
        iterate 1 (apply aops_step (by decide) rfl; · (intro K hK; simp (disch := first | omega | decide) only [go_sem, f0, f1, f2, h1, hi1, ha, hs1, hs2, hs3, cellsOf_page, ne_eq, not_true_eq_false]; exact hK _))
        refine aops_nil ?_
        apply AW.cond
        · simp (disch := first | omega | decide) only [go_sem, f0, f1, f2, h1, hi1, ha, hs1, hs2, hs3, cellsOf_page, ne_eq, not_true_eq_false]; rfl
        case hf => intro hb; simp at hb
        case ht =>
        intro hb
        have hbt72 := hb
        refine AW.seq ?_
        refine AW.region (cfg := cfg) ?_
        iterate 8 (apply aops_step (by decide) rfl; · (intro K hK; simp (disch := first | omega | decide) only [go_sem, f0, f1, f2, h1, hi1, ha, hs1, hs2, hs3, List.map, List.length_map, aops_len u48, cellsOf_page, ne_eq, not_true_eq_false]; exact hK _))
        apply aops_step (by decide) rfl
        · intro K hK
          simp (disch := first | omega | decide) only [go_sem, f0, f1, f2, h1, hi1, ha, hs1, hs2, hs3, act_call, List.map, cellsOf_page, ne_eq, not_true_eq_false]
          apply mwp_call_s rfl rfl rfl
          · intro Q hQ
            (simp (disch := first | omega | decide) only [go_sem, f0, f1, f2, h1, hi1, ha, hs1, hs2, hs3, peekL, reifyL_nil, reifyL_cons, reify_v, cellsOf_page, ne_eq, not_true_eq_false]; (exact hQ))
          · exact good_awake
          · simp [-List.map_take, -List.map_drop, -List.map_append, -List.map_replicate, -List.reduceReplicate, noPtrL, noPtr, noPtrL_bsl, noPtrL_map, sub]
          · rfl
          · exact hK _
        iterate 2 (apply aops_step (by decide) rfl; · (intro K hK; simp (disch := first | omega | decide) only [go_sem, f0, f1, f2, h1, hi1, ha, hs1, hs2, hs3, cellsOf_page, ne_eq, not_true_eq_false]; exact hK _))
        refine aops_nil ?_
        refine AW.ret ?_
        refine ⟨.inr rfl, ?_⟩
        apply Exists.intro
        refine leaves_tmp1 6 rfl ?_ (by rfl)
        simp (disch := first | omega | decide) only [go_sem, f0, f1, f2, h1, hi1, ha, hs1, hs2, hs3, cellsOf_page, ne_eq, not_true_eq_false]
        all_goals rfl
      · skip
        obtain ⟨hs1, hs2, hs3⟩ := split_bad (nil := nil) hbt47 ha
        obtain ⟨e1, e2, e3⟩ := sp_pos hbt47
        refine AW.region (cfg := cfg) ?_
        apply aops_step (by decide) rfl
        · intro K hK
          simp (disch := first | omega | decide) only [go_sem, f0, f1, f2, h1, hi1, ha, hs1, hs2, hs3, act_fieldAddr_t fo47_3, List.map, cellsOf_page, ne_eq, not_true_eq_false]
          rw [mwp_fieldAddr_b (by simp (disch := first | omega | decide) only [go_sem, f0, f1, f2, h1, hi1, ha, hs1, hs2, hs3, cellsOf_page, ne_eq, not_true_eq_false]; rfl)]
          exact hK _
        apply aops_step (by decide) rfl
        · intro K hK
          simp (disch := first | omega | decide) only [go_sem, f0, f1, f2, h1, hi1, ha, hs1, hs2, hs3, act_load_t ti3, List.map, cellsOf_page, ne_eq, not_true_eq_false]
          rw [mwp_load_b1 (by simp (disch := first | omega | decide) only [go_sem, f0, f1, f2, h1, hi1, ha, hs1, hs2, hs3, cellsOf_page, ne_eq, not_true_eq_false]; rfl) (by rfl)]
          exact hK _
        iterate 2 (apply aops_step (by decide) rfl; · (intro K hK; simp (disch := first | omega | decide) only [go_sem, f0, f1, f2, h1, hi1, ha, hs1, hs2, hs3, cellsOf_page, ne_eq, not_true_eq_false]; exact hK _))
        apply aops_step (by decide) rfl
        · intro K hK
          simp (disch := first | omega | decide) only [go_sem, f0, f1, f2, h1, hi1, ha, hs1, hs2, hs3, act_fieldAddr_t fo47_3, List.map, cellsOf_page, ne_eq, not_true_eq_false]
          rw [mwp_fieldAddr_b (by simp (disch := first | omega | decide) only [go_sem, f0, f1, f2, h1, hi1, ha, hs1, hs2, hs3, cellsOf_page, ne_eq, not_true_eq_false]; rfl)]
          exact hK _
        apply aops_step (by decide) rfl
        · intro K hK
          simp (disch := first | omega | decide) only [go_sem, f0, f1, f2, h1, hi1, ha, hs1, hs2, hs3, act_load_t ti3, List.map, cellsOf_page, ne_eq, not_true_eq_false]
          rw [mwp_load_b1 (by simp (disch := first | omega | decide) only [go_sem, f0, f1, f2, h1, hi1, ha, hs1, hs2, hs3, cellsOf_page, ne_eq, not_true_eq_false]; rfl) (by rfl)]
          exact hK _
        iterate 3 (apply aops_step (by decide) rfl; · (intro K hK; simp (disch := first | omega | decide) only [go_sem, f0, f1, f2, h1, hi1, ha, hs1, hs2, hs3, cellsOf_page, ne_eq, not_true_eq_false]; exact hK _))
        apply aops_step (by decide) rfl
        · intro K hK
          simp (disch := first | omega | decide) only [go_sem, f0, f1, f2, h1, hi1, ha, hs1, hs2, hs3, act_load_t ti47, List.map, cellsOf_page, ne_eq, not_true_eq_false]
          rw [mwp_load_bs (by simp (disch := first | omega | decide) only [go_sem, f0, f1, f2, h1, hi1, ha, hs1, hs2, hs3, cellsOf_page, ne_eq, not_true_eq_false]; rfl) (by simp [setAt])]
          exact hK _
        iterate 1 (apply aops_step (by decide) rfl; · (intro K hK; simp (disch := first | omega | decide) only [go_sem, f0, f1, f2, h1, hi1, ha, hs1, hs2, hs3, cellsOf_page, ne_eq, not_true_eq_false]; exact hK _))
        apply aops_step (by decide) rfl
        · intro K hK
          simp (disch := first | omega | decide) only [go_sem, f0, f1, f2, h1, hi1, ha, hs1, hs2, hs3, act_call, List.map, cellsOf_page, ne_eq, not_true_eq_false]
          apply mwp_call_r rfl rfl rfl
          · intro Q hQ
            (simp (disch := first | omega | decide) only [go_sem, f0, f1, f2, h1, hi1, ha, hs1, hs2, hs3, peekL, reifyL_nil, reifyL_cons, reify_v, cellsOf_page, ne_eq, not_true_eq_false]; (exact hQ))
          · exact good_refSplit p (by omega) nil b (by omega) (by omega)
          · simp [-List.map_take, -List.map_drop, -List.map_append, -List.map_replicate, -List.reduceReplicate, noPtrL, noPtr, noPtrL_bsl, noPtrL_map, sub]
          · simp (disch := first | omega | decide) only [go_sem, f0, f1, f2, h1, hi1, ha, hs1, hs2, hs3, cellsOf_page, ne_eq, not_true_eq_false]
            exact hK _
        apply aops_step (by decide) rfl
        · intro K hK
          simp (disch := first | omega | decide) only [go_sem, f0, f1, f2, h1, hi1, ha, hs1, hs2, hs3, act_call, List.map, cellsOf_page, ne_eq, not_true_eq_false]
          apply mwp_call_s rfl rfl rfl
          · intro Q hQ
            (simp (disch := first | omega | decide) only [go_sem, f0, f1, f2, h1, hi1, ha, hs1, hs2, hs3, peekL, reifyL_nil, reifyL_cons, reify_v, cellsOf_page, ne_eq, not_true_eq_false]; (exact hQ))
          · exact good_refMayR false (splitP p false b (parts (b.length : Int)).toNat) (by rw [splitP_len]; omega) (fun x hx => by have := splitP_small x hx; omega)
          · simp [-List.map_take, -List.map_drop, -List.map_append, -List.map_replicate, -List.reduceReplicate, noPtrL, noPtr, noPtrL_bsl, noPtrL_map, sub]
          · rfl
          · exact hK _
        iterate 2 (apply aops_step (by decide) rfl; · (intro K hK; simp (disch := first | omega | decide) only [go_sem, f0, f1, f2, h1, hi1, ha, hs1, hs2, hs3, cellsOf_page, ne_eq, not_true_eq_false]; exact hK _))
        refine aops_nil ?_
        apply AW.cond
        · simp (disch := first | omega | decide) only [go_sem, f0, f1, f2, h1, hi1, ha, hs1, hs2, hs3, cellsOf_page, ne_eq, not_true_eq_false]; rfl
        case hf => intro hb; simp at hb
        case ht =>
        intro hb
        have hbt72 := hb
        refine AW.seq ?_
        refine AW.region (cfg := cfg) ?_
        iterate 8 (apply aops_step (by decide) rfl; · (intro K hK; simp (disch := first | omega | decide) only [go_sem, f0, f1, f2, h1, hi1, ha, hs1, hs2, hs3, List.map, List.length_map, aops_len u48, cellsOf_page, ne_eq, not_true_eq_false]; exact hK _))
        apply aops_step (by decide) rfl
        · intro K hK
          simp (disch := first | omega | decide) only [go_sem, f0, f1, f2, h1, hi1, ha, hs1, hs2, hs3, act_call, List.map, cellsOf_page, ne_eq, not_true_eq_false]
          apply mwp_call_s rfl rfl rfl
          · intro Q hQ
            (simp (disch := first | omega | decide) only [go_sem, f0, f1, f2, h1, hi1, ha, hs1, hs2, hs3, peekL, reifyL_nil, reifyL_cons, reify_v, cellsOf_page, ne_eq, not_true_eq_false]; (exact hQ))
          · exact good_awake
          · simp [-List.map_take, -List.map_drop, -List.map_append, -List.map_replicate, -List.reduceReplicate, noPtrL, noPtr, noPtrL_bsl, noPtrL_map, sub]
          · rfl
          · exact hK _
        iterate 2 (apply aops_step (by decide) rfl; · (intro K hK; simp (disch := first | omega | decide) only [go_sem, f0, f1, f2, h1, hi1, ha, hs1, hs2, hs3, cellsOf_page, ne_eq, not_true_eq_false]; exact hK _))
        refine aops_nil ?_
        refine AW.ret ?_
        refine ⟨.inr rfl, ?_⟩
        apply Exists.intro
        refine leaves_tmp1 6 rfl ?_ (by rfl)
        simp (disch := first | omega | decide) only [go_sem, f0, f1, f2, h1, hi1, ha, hs1, hs2, hs3, cellsOf_page, ne_eq, not_true_eq_false]
        all_goals rfl
      · skip
        obtain ⟨hs1, hs2, hs3⟩ := split_yes (nil := nil) hbt47 ha
        obtain ⟨e1, e2, e3⟩ := sp_pos hbt47
        refine AW.region (cfg := cfg) ?_
        apply aops_step (by decide) rfl
        · intro K hK
          simp (disch := first | omega | decide) only [go_sem, f0, f1, f2, h1, hi1, ha, hs1, hs2, hs3, act_fieldAddr_t fo47_3, List.map, cellsOf_page, ne_eq, not_true_eq_false]
          rw [mwp_fieldAddr_b (by simp (disch := first | omega | decide) only [go_sem, f0, f1, f2, h1, hi1, ha, hs1, hs2, hs3, cellsOf_page, ne_eq, not_true_eq_false]; rfl)]
          exact hK _
        apply aops_step (by decide) rfl
        · intro K hK
          simp (disch := first | omega | decide) only [go_sem, f0, f1, f2, h1, hi1, ha, hs1, hs2, hs3, act_load_t ti3, List.map, cellsOf_page, ne_eq, not_true_eq_false]
          rw [mwp_load_b1 (by simp (disch := first | omega | decide) only [go_sem, f0, f1, f2, h1, hi1, ha, hs1, hs2, hs3, cellsOf_page, ne_eq, not_true_eq_false]; rfl) (by rfl)]
          exact hK _
        iterate 2 (apply aops_step (by decide) rfl; · (intro K hK; simp (disch := first | omega | decide) only [go_sem, f0, f1, f2, h1, hi1, ha, hs1, hs2, hs3, cellsOf_page, ne_eq, not_true_eq_false]; exact hK _))
        apply aops_step (by decide) rfl
        · intro K hK
          simp (disch := first | omega | decide) only [go_sem, f0, f1, f2, h1, hi1, ha, hs1, hs2, hs3, act_fieldAddr_t fo47_3, List.map, cellsOf_page, ne_eq, not_true_eq_false]
          rw [mwp_fieldAddr_b (by simp (disch := first | omega | decide) only [go_sem, f0, f1, f2, h1, hi1, ha, hs1, hs2, hs3, cellsOf_page, ne_eq, not_true_eq_false]; rfl)]
          exact hK _
        apply aops_step (by decide) rfl
        · intro K hK
          simp (disch := first | omega | decide) only [go_sem, f0, f1, f2, h1, hi1, ha, hs1, hs2, hs3, act_load_t ti3, List.map, cellsOf_page, ne_eq, not_true_eq_false]
          rw [mwp_load_b1 (by simp (disch := first | omega | decide) only [go_sem, f0, f1, f2, h1, hi1, ha, hs1, hs2, hs3, cellsOf_page, ne_eq, not_true_eq_false]; rfl) (by rfl)]
          exact hK _
        iterate 3 (apply aops_step (by decide) rfl; · (intro K hK; simp (disch := first | omega | decide) only [go_sem, f0, f1, f2, h1, hi1, ha, hs1, hs2, hs3, cellsOf_page, ne_eq, not_true_eq_false]; exact hK _))
        apply aops_step (by decide) rfl
        · intro K hK
          simp (disch := first | omega | decide) only [go_sem, f0, f1, f2, h1, hi1, ha, hs1, hs2, hs3, act_load_t ti47, List.map, cellsOf_page, ne_eq, not_true_eq_false]
          rw [mwp_load_bs (by simp (disch := first | omega | decide) only [go_sem, f0, f1, f2, h1, hi1, ha, hs1, hs2, hs3, cellsOf_page, ne_eq, not_true_eq_false]; rfl) (by simp [setAt])]
          exact hK _
        iterate 1 (apply aops_step (by decide) rfl; · (intro K hK; simp (disch := first | omega | decide) only [go_sem, f0, f1, f2, h1, hi1, ha, hs1, hs2, hs3, cellsOf_page, ne_eq, not_true_eq_false]; exact hK _))
        apply aops_step (by decide) rfl
        · intro K hK
          simp (disch := first | omega | decide) only [go_sem, f0, f1, f2, h1, hi1, ha, hs1, hs2, hs3, act_call, List.map, cellsOf_page, ne_eq, not_true_eq_false]
          apply mwp_call_r rfl rfl rfl
          · intro Q hQ
            (simp (disch := first | omega | decide) only [go_sem, f0, f1, f2, h1, hi1, ha, hs1, hs2, hs3, peekL, reifyL_nil, reifyL_cons, reify_v, cellsOf_page, ne_eq, not_true_eq_false]; (exact hQ))
          · exact good_refSplit p (by omega) nil b (by omega) (by omega)
          · simp [-List.map_take, -List.map_drop, -List.map_append, -List.map_replicate, -List.reduceReplicate, noPtrL, noPtr, noPtrL_bsl, noPtrL_map, sub]
          · simp (disch := first | omega | decide) only [go_sem, f0, f1, f2, h1, hi1, ha, hs1, hs2, hs3, cellsOf_page, ne_eq, not_true_eq_false]
            exact hK _
        apply aops_step (by decide) rfl
        · intro K hK
          simp (disch := first | omega | decide) only [go_sem, f0, f1, f2, h1, hi1, ha, hs1, hs2, hs3, act_call, List.map, cellsOf_page, ne_eq, not_true_eq_false]
          apply mwp_call_s rfl rfl rfl
          · intro Q hQ
            (simp (disch := first | omega | decide) only [go_sem, f0, f1, f2, h1, hi1, ha, hs1, hs2, hs3, peekL, reifyL_nil, reifyL_cons, reify_v, cellsOf_page, ne_eq, not_true_eq_false]; (exact hQ))
          · exact good_refMayR false (splitP p false b (parts (b.length : Int)).toNat) (by rw [splitP_len]; omega) (fun x hx => by have := splitP_small x hx; omega)
          · simp [-List.map_take, -List.map_drop, -List.map_append, -List.map_replicate, -List.reduceReplicate, noPtrL, noPtr, noPtrL_bsl, noPtrL_map, sub]
          · rfl
          · exact hK _
        iterate 2 (apply aops_step (by decide) rfl; · (intro K hK; simp (disch := first | omega | decide) only [go_sem, f0, f1, f2, h1, hi1, ha, hs1, hs2, hs3, cellsOf_page, ne_eq, not_true_eq_false]; exact hK _))
        refine aops_nil ?_
        apply AW.cond
        · simp (disch := first | omega | decide) only [go_sem, f0, f1, f2, h1, hi1, ha, hs1, hs2, hs3, cellsOf_page, ne_eq, not_true_eq_false]; rfl
        case ht => intro hb; simp at hb
        case hf =>
        intro hb
        have hbt72 := hb
        refine AW.skip ?_
        refine AW.seq ?_
        obtain ⟨hj1, hj2, hj3⟩ := split_join (p := p) (nil := nil) (b := b) (more := more) hbt47 ha
        have hpn := pages_nil p nil false b (parts (b.length : Int)).toNat
        have hsl := splitP_len p nil b (parts (b.length : Int)).toNat
        refine AW.region (cfg := cfg) ?_
        apply aops_step (by decide) rfl
        · intro K hK
          rw [act_bs el48 ti47]
          (simp [-List.map_take, -List.map_drop, -BitVec.toNat_ofInt, -BitVec.ofInt_natCast, -BitVec.toNat_setWidth, -BitVec.toNat_ushiftRight, -BitVec.toNat_umod, -BitVec.toNat_udiv, go_sem, elems_v, cellishAV, Value.oneCell', isAggAV, partsOf, TI.z, TI.mk1, f0, f1, f2, h1, hi1, ha, hs1, hs2, hs3, e1, hj1, hj2, hj3, hpn, hsl]; exact hK _)
        iterate 1 (apply aops_step (by decide) rfl; · (intro K hK; simp (disch := first | omega | decide) only [go_sem, f0, f1, f2, h1, hi1, ha, hs1, hs2, hs3, e1, hj1, hj2, hj3, hpn, hsl, cellsOf_page, ne_eq, not_true_eq_false]; exact hK _))
        apply aops_step (by decide) rfl
        · intro K hK
          simp (disch := first | omega | decide) only [go_sem, f0, f1, f2, h1, hi1, ha, hs1, hs2, hs3, e1, hj1, hj2, hj3, hpn, hsl, List.map, cellsOf_page, ne_eq, not_true_eq_false]
          apply mwp_append2 el48 ti47 u48
          case hpk => intro Q hQ; exact hQ
          case hs' => rfl
          case ho => simp (disch := first | omega | decide) only [go_sem, f0, f1, f2, h1, hi1, ha, hs1, hs2, hs3, e1, hj1, hj2, hj3, hpn, hsl, cellsOf_page, ne_eq, not_true_eq_false]; rfl
          case hsz => rfl
          case hhi => (simp; done)
          case hb => (simp only [List.length_cons, List.length_nil, List.length_map, Nat.zero_add, Nat.reduceAdd, roomB]; omega)
          case hy => (intro y hy; exact cells_map (k := 7) (fun _ => rfl) y hy)
          case k => (try simp only [List.nil_append, ← List.map_append, Bool.false_and]); exact hK _
        iterate 1 (apply aops_step (by decide) rfl; · (intro K hK; simp (disch := first | omega | decide) only [go_sem, f0, f1, f2, h1, hi1, ha, hs1, hs2, hs3, e1, hj1, hj2, hj3, hpn, hsl, cellsOf_page, ne_eq, not_true_eq_false]; exact hK _))
        apply aops_step (by decide) rfl
        · intro K hK
          simp (disch := first | omega | decide) only [go_sem, f0, f1, f2, h1, hi1, ha, hs1, hs2, hs3, e1, hj1, hj2, hj3, hpn, hsl, List.map, cellsOf_page, ne_eq, not_true_eq_false]
          apply mwp_append2 el48 ti47 u48
          case hpk => intro Q hQ; exact hQ
          case hs' => rfl
          case ho => simp (disch := first | omega | decide) only [go_sem, f0, f1, f2, h1, hi1, ha, hs1, hs2, hs3, e1, hj1, hj2, hj3, hpn, hsl, cellsOf_page, ne_eq, not_true_eq_false]; rfl
          case hsz => rfl
          case hhi => (simp; done)
          case hb => (simp only [List.length_cons, List.length_nil, List.length_map, Nat.zero_add, Nat.reduceAdd, roomB]; omega)
          case hy => (intro y hy; exact cells_map (k := 7) (fun _ => rfl) y hy)
          case k => (try simp only [List.nil_append, ← List.map_append, Bool.false_and]); exact hK _
        apply aops_step (by decide) rfl
        · intro K hK
          simp (disch := first | omega | decide) only [go_sem, f0, f1, f2, h1, hi1, ha, hs1, hs2, hs3, e1, hj1, hj2, hj3, hpn, hsl, act_call, List.map, cellsOf_page, ne_eq, not_true_eq_false]
          apply mwp_call_r rfl rfl rfl
          · intro Q hQ
            (simp (disch := first | omega | decide) only [go_sem, f0, f1, f2, h1, hi1, ha, hs1, hs2, hs3, e1, hj1, hj2, hj3, hpn, hsl, peekL, reifyL_nil, reifyL_cons, reify_v, cellsOf_page, ne_eq, not_true_eq_false]; ((((rw [mwp_reify_own (by simp (disch := first | omega | decide) only [go_sem, f0, f1, f2, h1, hi1, ha, hs1, hs2, hs3, e1, hj1, hj2, hj3, hpn, hsl, peekL, reifyL_nil, reifyL_cons, reify_v, cellsOf_page, ne_eq, not_true_eq_false]; rfl)]); (try rw [sub_full (by (simp; done))])); exact hQ)))
          · exact good_Join false (splitP p nil b (parts (b.length : Int)).toNat ++ more) (by rw [List.length_append, splitP_len]; omega) (fun x hx => by rcases List.mem_append.1 hx with h | h; have := splitP_small x h; omega; have := lb2 x h; omega)
          · simp [-List.map_take, -List.map_drop, -List.map_append, -List.map_replicate, -List.reduceReplicate, noPtrL, noPtr, noPtrL_bsl, noPtrL_map, sub]
          · simp (disch := first | omega | decide) only [go_sem, f0, f1, f2, h1, hi1, ha, hs1, hs2, hs3, e1, hj1, hj2, hj3, hpn, hsl, cellsOf_page, ne_eq, not_true_eq_false]
            exact hK _
        iterate 7 (apply aops_step (by decide) rfl; · (intro K hK; simp (disch := first | omega | decide) only [go_sem, f0, f1, f2, h1, hi1, ha, hs1, hs2, hs3, e1, hj1, hj2, hj3, hpn, hsl, cellsOf_page, ne_eq, not_true_eq_false]; exact hK _))
        refine aops_nil ?_
        refine AW.seq ?_
        refine AW.region (cfg := cfg) ?_
        iterate 4 (apply aops_step (by decide) rfl; · (intro K hK; simp (disch := first | omega | decide) only [go_sem, f0, f1, f2, h1, hi1, ha, hs1, hs2, hs3, e1, hj1, hj2, hj3, hpn, hsl, cellsOf_page, ne_eq, not_true_eq_false]; exact hK _))
        apply aops_step (by decide) rfl
        · intro K hK
          simp (disch := first | omega | decide) only [go_sem, f0, f1, f2, h1, hi1, ha, hs1, hs2, hs3, e1, hj1, hj2, hj3, hpn, hsl, act_load_t ti47, List.map, cellsOf_page, ne_eq, not_true_eq_false]
          rw [mwp_load_bs (by simp (disch := first | omega | decide) only [go_sem, f0, f1, f2, h1, hi1, ha, hs1, hs2, hs3, e1, hj1, hj2, hj3, hpn, hsl, cellsOf_page, ne_eq, not_true_eq_false]; rfl) (by simp [setAt])]
          exact hK _
        iterate 1 (apply aops_step (by decide) rfl; · (intro K hK; simp (disch := first | omega | decide) only [go_sem, f0, f1, f2, h1, hi1, ha, hs1, hs2, hs3, e1, hj1, hj2, hj3, hpn, hsl, cellsOf_page, ne_eq, not_true_eq_false]; exact hK _))
        apply aops_step (by decide) rfl
        · intro K hK
          simp (disch := first | omega | decide) only [go_sem, f0, f1, f2, h1, hi1, ha, hs1, hs2, hs3, e1, hj1, hj2, hj3, hpn, hsl, act_call, List.map, cellsOf_page, ne_eq, not_true_eq_false]
          apply mwp_call_r rfl rfl rfl
          · intro Q hQ
            (simp (disch := first | omega | decide) only [go_sem, f0, f1, f2, h1, hi1, ha, hs1, hs2, hs3, e1, hj1, hj2, hj3, hpn, hsl, peekL, reifyL_nil, reifyL_cons, reify_v, cellsOf_page, ne_eq, not_true_eq_false]; (exact hQ))
          · exact good_refSplit p (by omega) nil b (by omega) (by omega)
          · simp [-List.map_take, -List.map_drop, -List.map_append, -List.map_replicate, -List.reduceReplicate, noPtrL, noPtr, noPtrL_bsl, noPtrL_map, sub]
          · simp (disch := first | omega | decide) only [go_sem, f0, f1, f2, h1, hi1, ha, hs1, hs2, hs3, e1, hj1, hj2, hj3, hpn, hsl, cellsOf_page, ne_eq, not_true_eq_false]
            exact hK _
        apply aops_step (by decide) rfl
        · intro K hK
          simp (disch := first | omega | decide) only [go_sem, f0, f1, f2, h1, hi1, ha, hs1, hs2, hs3, e1, hj1, hj2, hj3, hpn, hsl, act_call, List.map, cellsOf_page, ne_eq, not_true_eq_false]
          apply mwp_call_s rfl rfl rfl
          · intro Q hQ
            (simp (disch := first | omega | decide) only [go_sem, f0, f1, f2, h1, hi1, ha, hs1, hs2, hs3, e1, hj1, hj2, hj3, hpn, hsl, peekL, reifyL_nil, reifyL_cons, reify_v, cellsOf_page, ne_eq, not_true_eq_false]; (exact hQ))
          · exact good_pages false false (splitP p nil b (parts (b.length : Int)).toNat) (splitP p false b (parts (b.length : Int)).toNat) (by rw [splitP_len]; omega) (by rw [splitP_len]; omega) (fun x hx => by have := splitP_small x hx; omega) (fun x hx => by have := splitP_small x hx; omega)
          · simp [-List.map_take, -List.map_drop, -List.map_append, -List.map_replicate, -List.reduceReplicate, noPtrL, noPtr, noPtrL_bsl, noPtrL_map, sub]
          · rfl
          · exact hK _
        iterate 13 (apply aops_step (by decide) rfl; · (intro K hK; simp (disch := first | omega | decide) only [go_sem, f0, f1, f2, h1, hi1, ha, hs1, hs2, hs3, e1, hj1, hj2, hj3, hpn, hsl, List.map, List.length_map, aops_len u48, cellsOf_page, ne_eq, not_true_eq_false]; exact hK _))
        apply aops_step (by decide) rfl
        · intro K hK
          simp (disch := first | omega | decide) only [go_sem, f0, f1, f2, h1, hi1, ha, hs1, hs2, hs3, e1, hj1, hj2, hj3, hpn, hsl, act_call, List.map, cellsOf_page, ne_eq, not_true_eq_false]
          apply mwp_call_s rfl rfl rfl
          · intro Q hQ
            (simp (disch := first | omega | decide) only [go_sem, f0, f1, f2, h1, hi1, ha, hs1, hs2, hs3, e1, hj1, hj2, hj3, hpn, hsl, peekL, reifyL_nil, reifyL_cons, reify_v, cellsOf_page, ne_eq, not_true_eq_false]; (exact hQ))
          · exact O.good_Same b.isEmpty nil b b (by omega) (by omega)
          · simp [-List.map_take, -List.map_drop, -List.map_append, -List.map_replicate, -List.reduceReplicate, noPtrL, noPtr, noPtrL_bsl, noPtrL_map, sub]
          · rfl
          · exact hK _
        iterate 2 (apply aops_step (by decide) rfl; · (intro K hK; simp (disch := first | omega | decide) only [go_sem, f0, f1, f2, h1, hi1, ha, hs1, hs2, hs3, e1, hj1, hj2, hj3, hpn, hsl, cellsOf_page, ne_eq, not_true_eq_false]; exact hK _))
        apply aops_step (by decide) rfl
        · intro K hK
          simp (disch := first | omega | decide) only [go_sem, f0, f1, f2, h1, hi1, ha, hs1, hs2, hs3, e1, hj1, hj2, hj3, hpn, hsl, act_call, List.map, cellsOf_page, ne_eq, not_true_eq_false]
          apply mwp_call_s rfl rfl rfl
          · intro Q hQ
            (simp (disch := first | omega | decide) only [go_sem, f0, f1, f2, h1, hi1, ha, hs1, hs2, hs3, e1, hj1, hj2, hj3, hpn, hsl, peekL, reifyL_nil, reifyL_cons, reify_v, cellsOf_page, ne_eq, not_true_eq_false]; (exact hQ))
          · exact good_awake
          · simp [-List.map_take, -List.map_drop, -List.map_append, -List.map_replicate, -List.reduceReplicate, noPtrL, noPtr, noPtrL_bsl, noPtrL_map, sub]
          · rfl
          · exact hK _
        iterate 2 (apply aops_step (by decide) rfl; · (intro K hK; simp (disch := first | omega | decide) only [go_sem, f0, f1, f2, h1, hi1, ha, hs1, hs2, hs3, e1, hj1, hj2, hj3, hpn, hsl, cellsOf_page, ne_eq, not_true_eq_false]; exact hK _))
        refine aops_nil ?_
        refine AW.ret ?_
        refine ⟨.inr rfl, ?_⟩
        apply Exists.intro
        refine leaves_tmp1 6 rfl ?_ (by rfl)
        simp (disch := first | omega | decide) only [go_sem, f0, f1, f2, h1, hi1, ha, hs1, hs2, hs3, e1, hj1, hj2, hj3, hpn, hsl, cellsOf_page, ne_eq, not_true_eq_false]
        all_goals first | done | rfl | trace_state

end Go.Vai.R
