import Derived.Test.YtompjoadhhjddaabAw09
namespace Go.Vai.L
open Go.Proofs Go.Vai Go.Vai.O
set_option linter.unusedSimpArgs false
set_option linter.unusedVariables false
theorem u4 : Try.prog.underlying 4 = some .bool := by kernel_rfl

set_option maxHeartbeats 4000000 in
set_option maxRecDepth 100000 in
theorem good_LsaTells (x : Lsa) (hx : x.ls.length ≤ 9223372036854775807) (hx2 : x.nil = true → x.ls = [])(y : Lsa) (hy : y.ls.length ≤ 9223372036854775807) (to : Int) : Good Try.prog 5 [(lsaA x, false), (lsaA y, false), (i64 to, false)] [] [(.b true, false)] [] := by
  refine good_of_body4 68 Try.func5 rfl rfl rfl (by simp) (by simp) (by simp [noPtrL, noPtr]) rfl ?_
  intro s m ha hr hv hG
  have f0 : s 0 = .v (.agg [i64 x.o, i64 x.s, .sl 2 x.nil (x.ls.map linkA)]) := ha 0 _ rfl
  have f1 : s 1 = .v (.agg [i64 y.o, i64 y.s, .sl 2 y.nil (y.ls.map linkA)]) := ha 1 _ rfl
  have f2 : s 2 = .v (i64 to) := ha 2 _ rfl
  clear ha
  refine AW.seq ?_
  refine AW.region (cfg := cfg) ?_
  apply aops_step (by decide) rfl
  · intro K hK
    simp (disch := first | omega | decide) only [go_sem, f0, f1, f2, act_box_t ti24, List.map, cellsOf_link, cellsOf_lsa, lsaEq_refl, newer, d33, d77, d10, d01, d10', d00, d11, dtt, dff, dtf, dft, dnt, dnf, deq, Bool.not_true, Bool.not_false, Bool.true_and, Bool.and_true, beq_self_eq_true, bne_self_eq_false]
    rw [settleL_vish _ _ (by rfl)]
    simp (disch := first | omega | decide) only [go_sem, f0, f1, f2, cellsL, List.map, List.length_cons, List.length_nil, Nat.reduceAdd, if_true, cellsOf_link, cellsOf_lsa, lsaEq_refl, newer, d33, d77, d10, d01, d10', d00, d11, dtt, dff, dtf, dft, dnt, dnf, deq, Bool.not_true, Bool.not_false, Bool.true_and, Bool.and_true, beq_self_eq_true, bne_self_eq_false]
    exact hK _
  apply aops_step (by decide) rfl
  · intro K hK
    simp (disch := first | omega | decide) only [go_sem, f0, f1, f2, act_box_t ti24, List.map, cellsOf_link, cellsOf_lsa, lsaEq_refl, newer, d33, d77, d10, d01, d10', d00, d11, dtt, dff, dtf, dft, dnt, dnf, deq, Bool.not_true, Bool.not_false, Bool.true_and, Bool.and_true, beq_self_eq_true, bne_self_eq_false]
    rw [settleL_vish _ _ (by rfl)]
    simp (disch := first | omega | decide) only [go_sem, f0, f1, f2, cellsL, List.map, List.length_cons, List.length_nil, Nat.reduceAdd, if_true, cellsOf_link, cellsOf_lsa, lsaEq_refl, newer, d33, d77, d10, d01, d10', d00, d11, dtt, dff, dtf, dft, dnt, dnf, deq, Bool.not_true, Bool.not_false, Bool.true_and, Bool.and_true, beq_self_eq_true, bne_self_eq_false]
    exact hK _
  iterate 1 (apply aops_step (by decide) rfl; · (intro K hK; simp (disch := first | omega | decide) only [go_sem, f0, f1, f2, cellsOf_link, cellsOf_lsa, lsaEq_refl, newer, d33, d77, d10, d01, d10', d00, d11, dtt, dff, dtf, dft, dnt, dnf, deq, Bool.not_true, Bool.not_false, Bool.true_and, Bool.and_true, beq_self_eq_true, bne_self_eq_false]; exact hK _))
  refine aops_nil ?_
  refine AW.seq ?_
  refine AW.seq ?_
  refine AW.region (cfg := cfg) ?_
  apply aops_step (by decide) rfl
  · intro K hK
    simp (disch := first | omega | decide) only [go_sem, f0, f1, f2, act_load_t ti24, List.map, cellsOf_link, cellsOf_lsa, lsaEq_refl, newer, d33, d77, d10, d01, d10', d00, d11, dtt, dff, dtf, dft, dnt, dnf, deq, Bool.not_true, Bool.not_false, Bool.true_and, Bool.and_true, beq_self_eq_true, bne_self_eq_false]
    rw [mwp_load_bs (by simp (disch := first | omega | decide) only [go_sem, f0, f1, f2, cellsOf_link, cellsOf_lsa, lsaEq_refl, newer, d33, d77, d10, d01, d10', d00, d11, dtt, dff, dtf, dft, dnt, dnf, deq, Bool.not_true, Bool.not_false, Bool.true_and, Bool.and_true, beq_self_eq_true, bne_self_eq_false]; rfl) (by simp [setAt])]
    exact hK _
  apply aops_step (by decide) rfl
  · intro K hK
    simp (disch := first | omega | decide) only [go_sem, f0, f1, f2, act_call, List.map, cellsOf_link, cellsOf_lsa, lsaEq_refl, newer, d33, d77, d10, d01, d10', d00, d11, dtt, dff, dtf, dft, dnt, dnf, deq, Bool.not_true, Bool.not_false, Bool.true_and, Bool.and_true, beq_self_eq_true, bne_self_eq_false]
    apply mwp_call_s rfl rfl rfl
    · intro Q hQ
      simp (disch := first | omega | decide) only [go_sem, f0, f1, f2, peekL, reifyL_nil, reifyL_cons, reify_v, cellsOf_link, cellsOf_lsa, lsaEq_refl, newer, d33, d77, d10, d01, d10', d00, d11, dtt, dff, dtf, dft, dnt, dnf, deq, Bool.not_true, Bool.not_false, Bool.true_and, Bool.and_true, beq_self_eq_true, bne_self_eq_false]
      exact hQ
    · exact good_Light x (by omega)
    · simp [-List.map_take, -List.map_drop, -List.map_append, -List.map_replicate, -List.reduceReplicate, noPtrL, noPtr, noPtrL_bsl, noPtrL_map, noPtrL_links, noPtr_lsa, noPtrL_lsas, sub]
    · rfl
    · exact hK _
  iterate 2 (apply aops_step (by decide) rfl; · (intro K hK; simp (disch := first | omega | decide) only [go_sem, f0, f1, f2, cellsOf_link, cellsOf_lsa, lsaEq_refl, newer, d33, d77, d10, d01, d10', d00, d11, dtt, dff, dtf, dft, dnt, dnf, deq, Bool.not_true, Bool.not_false, Bool.true_and, Bool.and_true, beq_self_eq_true, bne_self_eq_false]; exact hK _))
  apply aops_merge' (by decide) (by exact want_of (d := 12) rfl (by simp (disch := first | omega | decide) only [go_sem, f0, f1, f2, opn_cond, cellsOf_link, cellsOf_lsa, lsaEq_refl, newer, d33, d77, d10, d01, d10', d00, d11, dtt, dff, dtf, dft, dnt, dnf, deq, Bool.not_true, Bool.not_false, Bool.true_and, Bool.and_true, beq_self_eq_true, bne_self_eq_false]; rfl))
  · intro hc K hK
    have hc2 := hc
    simp only [beq_iff_eq, decide_eq_true_eq, decide_eq_false_iff_not, Bool.or_eq_true, Bool.and_eq_true, Bool.or_eq_false_iff, Bool.and_eq_false_iff] at hc2
    simp (disch := first | omega | decide) only [go_sem, f0, f1, f2, opn_cond, hc, if_true, act_load_t ti24, cellsOf_link, cellsOf_lsa, lsaEq_refl, newer, d33, d77, d10, d01, d10', d00, d11, dtt, dff, dtf, dft, dnt, dnf, deq, Bool.not_true, Bool.not_false, Bool.true_and, Bool.and_true, beq_self_eq_true, bne_self_eq_false]
    rw [mwp_load_bs (by simp (disch := first | omega | decide) only [go_sem, f0, f1, f2, opn_cond, hc, if_true, cellsOf_link, cellsOf_lsa, lsaEq_refl, newer, d33, d77, d10, d01, d10', d00, d11, dtt, dff, dtf, dft, dnt, dnf, deq, Bool.not_true, Bool.not_false, Bool.true_and, Bool.and_true, beq_self_eq_true, bne_self_eq_false]; rfl) (by simp [setAt])]
    exact hK _
  apply aops_merge' (by decide) (by exact want_of (d := 12) rfl (by simp (disch := first | omega | decide) only [go_sem, f0, f1, f2, opn_cond, cellsOf_link, cellsOf_lsa, lsaEq_refl, newer, d33, d77, d10, d01, d10', d00, d11, dtt, dff, dtf, dft, dnt, dnf, deq, Bool.not_true, Bool.not_false, Bool.true_and, Bool.and_true, beq_self_eq_true, bne_self_eq_false]; rfl))
  · intro hc K hK
    have hc2 := hc
    simp only [beq_iff_eq, decide_eq_true_eq, decide_eq_false_iff_not, Bool.or_eq_true, Bool.and_eq_true, Bool.or_eq_false_iff, Bool.and_eq_false_iff] at hc2
    simp (disch := first | omega | decide) only [go_sem, f0, f1, f2, opn_cond, hc, if_true, act_call, List.map, cellsOf_link, cellsOf_lsa, lsaEq_refl, newer, d33, d77, d10, d01, d10', d00, d11, dtt, dff, dtf, dft, dnt, dnf, deq, Bool.not_true, Bool.not_false, Bool.true_and, Bool.and_true, beq_self_eq_true, bne_self_eq_false]
    apply mwp_call_s rfl rfl rfl
    · intro Q hQ
      simp (disch := first | omega | decide) only [go_sem, f0, f1, f2, opn_cond, hc, if_true, peekL, reifyL_nil, reifyL_cons, reify_v, cellsOf_link, cellsOf_lsa, lsaEq_refl, newer, d33, d77, d10, d01, d10', d00, d11, dtt, dff, dtf, dft, dnt, dnf, deq, Bool.not_true, Bool.not_false, Bool.true_and, Bool.and_true, beq_self_eq_true, bne_self_eq_false]
      exact hQ
    · exact good_Light y (by omega)
    · simp [-List.map_take, -List.map_drop, -List.map_append, -List.map_replicate, -List.reduceReplicate, noPtrL, noPtr, noPtrL_bsl, noPtrL_map, noPtrL_links, noPtr_lsa, noPtrL_lsas, sub]
    · rfl
    · exact hK _
  apply aops_merge' (by decide) (by exact want_of (d := 12) rfl (by simp (disch := first | omega | decide) only [go_sem, f0, f1, f2, opn_cond, cellsOf_link, cellsOf_lsa, lsaEq_refl, newer, d33, d77, d10, d01, d10', d00, d11, dtt, dff, dtf, dft, dnt, dnf, deq, Bool.not_true, Bool.not_false, Bool.true_and, Bool.and_true, beq_self_eq_true, bne_self_eq_false]; rfl))
  · intro hc K hK
    have hc2 := hc
    simp only [beq_iff_eq, decide_eq_true_eq, decide_eq_false_iff_not, Bool.or_eq_true, Bool.and_eq_true, Bool.or_eq_false_iff, Bool.and_eq_false_iff] at hc2
    simp (disch := first | omega | decide) only [go_sem, f0, f1, f2, opn_cond, hc, if_true, cellsOf_link, cellsOf_lsa, lsaEq_refl, newer, d33, d77, d10, d01, d10', d00, d11, dtt, dff, dtf, dft, dnt, dnf, deq, Bool.not_true, Bool.not_false, Bool.true_and, Bool.and_true, beq_self_eq_true, bne_self_eq_false]
    exact hK _
  iterate 1 (apply aops_step (by decide) rfl; · (intro K hK; simp (disch := first | omega | decide) only [go_sem, f0, f1, f2, cellsOf_link, cellsOf_lsa, lsaEq_refl, newer, d33, d77, d10, d01, d10', d00, d11, dtt, dff, dtf, dft, dnt, dnf, deq, Bool.not_true, Bool.not_false, Bool.true_and, Bool.and_true, beq_self_eq_true, bne_self_eq_false]; exact hK _))
  refine aops_nil ?_
  apply AW.cond
  · simp (disch := first | omega | decide) only [go_sem, f0, f1, f2, cellsOf_link, cellsOf_lsa, lsaEq_refl, newer, d33, d77, d10, d01, d10', d00, d11, dtt, dff, dtf, dft, dnt, dnf, deq, Bool.not_true, Bool.not_false, Bool.true_and, Bool.and_true, beq_self_eq_true, bne_self_eq_false]; rfl
  case ht =>
    intro hb
    try simp only [Bool.or_eq_true, Bool.and_eq_true, Bool.or_eq_false_iff, Bool.and_eq_false_iff, decide_eq_true_eq, decide_eq_false_iff_not] at hb
    have hbt16 := hb
    refine AW.seq ?_
    refine AW.region (cfg := cfg) ?_
    apply aops_step (by decide) rfl
    · intro K hK
      simp (disch := first | omega | decide) only [go_sem, f0, f1, f2, act_call, List.map, cellsOf_link, cellsOf_lsa, lsaEq_refl, newer, d33, d77, d10, d01, d10', d00, d11, dtt, dff, dtf, dft, dnt, dnf, deq, Bool.not_true, Bool.not_false, Bool.true_and, Bool.and_true, beq_self_eq_true, bne_self_eq_false]
      apply mwp_call_s rfl rfl rfl
      · intro Q hQ
        simp (disch := first | omega | decide) only [go_sem, f0, f1, f2, peekL, reifyL_nil, reifyL_cons, reify_v, cellsOf_link, cellsOf_lsa, lsaEq_refl, newer, d33, d77, d10, d01, d10', d00, d11, dtt, dff, dtf, dft, dnt, dnf, deq, Bool.not_true, Bool.not_false, Bool.true_and, Bool.and_true, beq_self_eq_true, bne_self_eq_false]
        exact hQ
      · exact L.good_awake
      · simp [-List.map_take, -List.map_drop, -List.map_append, -List.map_replicate, -List.reduceReplicate, noPtrL, noPtr, noPtrL_bsl, noPtrL_map, noPtrL_links, noPtr_lsa, noPtrL_lsas, sub]
      · rfl
      · exact hK _
    iterate 1 (apply aops_step (by decide) rfl; · (intro K hK; simp (disch := first | omega | decide) only [go_sem, f0, f1, f2, cellsOf_link, cellsOf_lsa, lsaEq_refl, newer, d33, d77, d10, d01, d10', d00, d11, dtt, dff, dtf, dft, dnt, dnf, deq, Bool.not_true, Bool.not_false, Bool.true_and, Bool.and_true, beq_self_eq_true, bne_self_eq_false]; exact hK _))
    refine aops_nil ?_
    refine AW.ret ?_
    refine ⟨.inr rfl, ?_⟩
    apply Exists.intro
    refine leaves_tmp1 6 rfl ?_ (by rfl)
    simp (disch := first | omega | decide) only [go_sem, f0, f1, f2, cellsOf_link, cellsOf_lsa, lsaEq_refl, newer, d33, d77, d10, d01, d10', d00, d11, dtt, dff, dtf, dft, dnt, dnf, deq, Bool.not_true, Bool.not_false, Bool.true_and, Bool.and_true, beq_self_eq_true, bne_self_eq_false]
    all_goals first | done | rfl | trace_state
  case hf =>
    intro hb
    try simp only [Bool.or_eq_true, Bool.and_eq_true, Bool.or_eq_false_iff, Bool.and_eq_false_iff, decide_eq_true_eq, decide_eq_false_iff_not] at hb
    have hbt16 := hb
    refine AW.skip ?_
    refine AW.seq ?_
    have hlx : x.ls.length ≤ 40 := by simp at hbt16; omega
    refine AW.region (cfg := cfg) ?_
    apply aops_step (by decide) rfl
    · intro K hK
      simp (disch := first | omega | decide) only [go_sem, f0, f1, f2, act_load_t ti24, List.map, cellsOf_link, cellsOf_lsa, lsaEq_refl, newer, d33, d77, d10, d01, d10', d00, d11, dtt, dff, dtf, dft, dnt, dnf, deq, Bool.not_true, Bool.not_false, Bool.true_and, Bool.and_true, beq_self_eq_true, bne_self_eq_false]
      rw [mwp_load_bs (by simp (disch := first | omega | decide) only [go_sem, f0, f1, f2, cellsOf_link, cellsOf_lsa, lsaEq_refl, newer, d33, d77, d10, d01, d10', d00, d11, dtt, dff, dtf, dft, dnt, dnf, deq, Bool.not_true, Bool.not_false, Bool.true_and, Bool.and_true, beq_self_eq_true, bne_self_eq_false]; rfl) (by simp [setAt])]
      exact hK _
    apply aops_step (by decide) rfl
    · intro K hK
      simp (disch := first | omega | decide) only [go_sem, f0, f1, f2, act_call, List.map, cellsOf_link, cellsOf_lsa, lsaEq_refl, newer, d33, d77, d10, d01, d10', d00, d11, dtt, dff, dtf, dft, dnt, dnf, deq, Bool.not_true, Bool.not_false, Bool.true_and, Bool.and_true, beq_self_eq_true, bne_self_eq_false]
      apply mwp_call_r rfl rfl rfl
      · intro Q hQ
        simp (disch := first | omega | decide) only [go_sem, f0, f1, f2, peekL, reifyL_nil, reifyL_cons, reify_v, cellsOf_link, cellsOf_lsa, lsaEq_refl, newer, d33, d77, d10, d01, d10', d00, d11, dtt, dff, dtf, dft, dnt, dnf, deq, Bool.not_true, Bool.not_false, Bool.true_and, Bool.and_true, beq_self_eq_true, bne_self_eq_false]
        exact hQ
      · exact good_Copy x (by omega) (by omega) hx2
      · simp [-List.map_take, -List.map_drop, -List.map_append, -List.map_replicate, -List.reduceReplicate, noPtrL, noPtr, noPtrL_bsl, noPtrL_map, noPtrL_links, noPtr_lsa, noPtrL_lsas, sub]
      · simp (disch := first | omega | decide) only [go_sem, f0, f1, f2, cellsOf_link, cellsOf_lsa, lsaEq_refl, newer, d33, d77, d10, d01, d10', d00, d11, dtt, dff, dtf, dft, dnt, dnf, deq, Bool.not_true, Bool.not_false, Bool.true_and, Bool.and_true, beq_self_eq_true, bne_self_eq_false]
        exact hK _
    apply aops_step (by decide) rfl
    · intro K hK
      simp (disch := first | omega | decide) only [go_sem, f0, f1, f2, act_alloc_t ti24, List.map, cellsOf_link, cellsOf_lsa, lsaEq_refl, newer, d33, d77, d10, d01, d10', d00, d11, dtt, dff, dtf, dft, dnt, dnf, deq, Bool.not_true, Bool.not_false, Bool.true_and, Bool.and_true, beq_self_eq_true, bne_self_eq_false]
      exact hK _
    apply aops_step0 rfl
    · intro K hK
      simp (disch := first | omega | decide) only [go_sem, f0, f1, f2, act_store_t ti24, List.map, cellsOf_link, cellsOf_lsa, lsaEq_refl, newer, d33, d77, d10, d01, d10', d00, d11, dtt, dff, dtf, dft, dnt, dnf, deq, Bool.not_true, Bool.not_false, Bool.true_and, Bool.and_true, beq_self_eq_true, bne_self_eq_false]
      rw [mwp_store_c (by simp (disch := first | omega | decide) only [go_sem, f0, f1, f2, cellsOf_link, cellsOf_lsa, lsaEq_refl, newer, d33, d77, d10, d01, d10', d00, d11, dtt, dff, dtf, dft, dnt, dnf, deq, Bool.not_true, Bool.not_false, Bool.true_and, Bool.and_true, beq_self_eq_true, bne_self_eq_false]; rfl) (by rfl) (by rfl) (by rfl) (by simp)]
      try simp only [setAt, cellsL, cellsOf_agg, cellsOf_base, List.map_cons, List.map_nil, List.set_cons_zero, List.set_cons_succ, Nat.reduceAdd, Nat.zero_add, hG]
      exact hK _
    refine aops_nil ?_
    refine AW.seq ?_
    refine AW.region (cfg := cfg) ?_
    apply aops_step (by decide) rfl
    · intro K hK
      simp (disch := first | omega | decide) only [go_sem, f0, f1, f2, act_fieldAddr_t fo24_0, List.map, cellsOf_link, cellsOf_lsa, lsaEq_refl, newer, d33, d77, d10, d01, d10', d00, d11, dtt, dff, dtf, dft, dnt, dnf, deq, Bool.not_true, Bool.not_false, Bool.true_and, Bool.and_true, beq_self_eq_true, bne_self_eq_false]
      rw [mwp_fieldAddr_b (by simp (disch := first | omega | decide) only [go_sem, f0, f1, f2, cellsOf_link, cellsOf_lsa, lsaEq_refl, newer, d33, d77, d10, d01, d10', d00, d11, dtt, dff, dtf, dft, dnt, dnf, deq, Bool.not_true, Bool.not_false, Bool.true_and, Bool.and_true, beq_self_eq_true, bne_self_eq_false]; rfl)]
      exact hK _
    apply aops_step (by decide) rfl
    · intro K hK
      simp (disch := first | omega | decide) only [go_sem, f0, f1, f2, act_load_t ti3, List.map, cellsOf_link, cellsOf_lsa, lsaEq_refl, newer, d33, d77, d10, d01, d10', d00, d11, dtt, dff, dtf, dft, dnt, dnf, deq, Bool.not_true, Bool.not_false, Bool.true_and, Bool.and_true, beq_self_eq_true, bne_self_eq_false]
      rw [mwp_load_b1 (by simp (disch := first | omega | decide) only [go_sem, f0, f1, f2, cellsOf_link, cellsOf_lsa, lsaEq_refl, newer, d33, d77, d10, d01, d10', d00, d11, dtt, dff, dtf, dft, dnt, dnf, deq, Bool.not_true, Bool.not_false, Bool.true_and, Bool.and_true, beq_self_eq_true, bne_self_eq_false]; rfl) (by rfl)]
      exact hK _
    apply aops_step (by decide) rfl
    · intro K hK
      simp (disch := first | omega | decide) only [go_sem, f0, f1, f2, act_fieldAddr_t fo24_0, List.map, cellsOf_link, cellsOf_lsa, lsaEq_refl, newer, d33, d77, d10, d01, d10', d00, d11, dtt, dff, dtf, dft, dnt, dnf, deq, Bool.not_true, Bool.not_false, Bool.true_and, Bool.and_true, beq_self_eq_true, bne_self_eq_false]
      rw [mwp_fieldAddr_b (by simp (disch := first | omega | decide) only [go_sem, f0, f1, f2, cellsOf_link, cellsOf_lsa, lsaEq_refl, newer, d33, d77, d10, d01, d10', d00, d11, dtt, dff, dtf, dft, dnt, dnf, deq, Bool.not_true, Bool.not_false, Bool.true_and, Bool.and_true, beq_self_eq_true, bne_self_eq_false]; rfl)]
      exact hK _
    apply aops_step (by decide) rfl
    · intro K hK
      simp (disch := first | omega | decide) only [go_sem, f0, f1, f2, act_load_t ti3, List.map, cellsOf_link, cellsOf_lsa, lsaEq_refl, newer, d33, d77, d10, d01, d10', d00, d11, dtt, dff, dtf, dft, dnt, dnf, deq, Bool.not_true, Bool.not_false, Bool.true_and, Bool.and_true, beq_self_eq_true, bne_self_eq_false]
      rw [mwp_load_b1 (by simp (disch := first | omega | decide) only [go_sem, f0, f1, f2, cellsOf_link, cellsOf_lsa, lsaEq_refl, newer, d33, d77, d10, d01, d10', d00, d11, dtt, dff, dtf, dft, dnt, dnf, deq, Bool.not_true, Bool.not_false, Bool.true_and, Bool.and_true, beq_self_eq_true, bne_self_eq_false]; rfl) (by rfl)]
      exact hK _
    iterate 2 (apply aops_step (by decide) rfl; · (intro K hK; simp (disch := first | omega | decide) only [go_sem, f0, f1, f2, cellsOf_link, cellsOf_lsa, lsaEq_refl, newer, d33, d77, d10, d01, d10', d00, d11, dtt, dff, dtf, dft, dnt, dnf, deq, Bool.not_true, Bool.not_false, Bool.true_and, Bool.and_true, beq_self_eq_true, bne_self_eq_false]; exact hK _))
    apply aops_merge' (by decide) (by exact want_of (d := 25) rfl (by simp (disch := first | omega | decide) only [go_sem, f0, f1, f2, opn_cond, cellsOf_link, cellsOf_lsa, lsaEq_refl, newer, d33, d77, d10, d01, d10', d00, d11, dtt, dff, dtf, dft, dnt, dnf, deq, Bool.not_true, Bool.not_false, Bool.true_and, Bool.and_true, beq_self_eq_true, bne_self_eq_false]; rfl))
    · intro hc K hK
      have hc2 := hc
      simp only [beq_iff_eq, decide_eq_true_eq, decide_eq_false_iff_not, Bool.or_eq_true, Bool.and_eq_true, Bool.or_eq_false_iff, Bool.and_eq_false_iff] at hc2
      simp (disch := first | omega | decide) only [go_sem, f0, f1, f2, opn_cond, hc, if_true, act_fieldAddr_t fo24_1, cellsOf_link, cellsOf_lsa, lsaEq_refl, newer, d33, d77, d10, d01, d10', d00, d11, dtt, dff, dtf, dft, dnt, dnf, deq, Bool.not_true, Bool.not_false, Bool.true_and, Bool.and_true, beq_self_eq_true, bne_self_eq_false]
      rw [mwp_fieldAddr_b (by simp (disch := first | omega | decide) only [go_sem, f0, f1, f2, opn_cond, hc, if_true, cellsOf_link, cellsOf_lsa, lsaEq_refl, newer, d33, d77, d10, d01, d10', d00, d11, dtt, dff, dtf, dft, dnt, dnf, deq, Bool.not_true, Bool.not_false, Bool.true_and, Bool.and_true, beq_self_eq_true, bne_self_eq_false]; rfl)]
      exact hK _
    apply aops_merge' (by decide) (by exact want_of (d := 25) rfl (by simp (disch := first | omega | decide) only [go_sem, f0, f1, f2, opn_cond, cellsOf_link, cellsOf_lsa, lsaEq_refl, newer, d33, d77, d10, d01, d10', d00, d11, dtt, dff, dtf, dft, dnt, dnf, deq, Bool.not_true, Bool.not_false, Bool.true_and, Bool.and_true, beq_self_eq_true, bne_self_eq_false]; rfl))
    · intro hc K hK
      have hc2 := hc
      simp only [beq_iff_eq, decide_eq_true_eq, decide_eq_false_iff_not, Bool.or_eq_true, Bool.and_eq_true, Bool.or_eq_false_iff, Bool.and_eq_false_iff] at hc2
      simp (disch := first | omega | decide) only [go_sem, f0, f1, f2, opn_cond, hc, if_true, act_load_t ti3, cellsOf_link, cellsOf_lsa, lsaEq_refl, newer, d33, d77, d10, d01, d10', d00, d11, dtt, dff, dtf, dft, dnt, dnf, deq, Bool.not_true, Bool.not_false, Bool.true_and, Bool.and_true, beq_self_eq_true, bne_self_eq_false]
      rw [mwp_load_b1 (by simp (disch := first | omega | decide) only [go_sem, f0, f1, f2, opn_cond, hc, if_true, cellsOf_link, cellsOf_lsa, lsaEq_refl, newer, d33, d77, d10, d01, d10', d00, d11, dtt, dff, dtf, dft, dnt, dnf, deq, Bool.not_true, Bool.not_false, Bool.true_and, Bool.and_true, beq_self_eq_true, bne_self_eq_false]; rfl) (by rfl)]
      exact hK _
    apply aops_merge' (by decide) (by exact want_of (d := 25) rfl (by simp (disch := first | omega | decide) only [go_sem, f0, f1, f2, opn_cond, cellsOf_link, cellsOf_lsa, lsaEq_refl, newer, d33, d77, d10, d01, d10', d00, d11, dtt, dff, dtf, dft, dnt, dnf, deq, Bool.not_true, Bool.not_false, Bool.true_and, Bool.and_true, beq_self_eq_true, bne_self_eq_false]; rfl))
    · intro hc K hK
      have hc2 := hc
      simp only [beq_iff_eq, decide_eq_true_eq, decide_eq_false_iff_not, Bool.or_eq_true, Bool.and_eq_true, Bool.or_eq_false_iff, Bool.and_eq_false_iff] at hc2
      simp (disch := first | omega | decide) only [go_sem, f0, f1, f2, opn_cond, hc, if_true, act_fieldAddr_t fo24_1, cellsOf_link, cellsOf_lsa, lsaEq_refl, newer, d33, d77, d10, d01, d10', d00, d11, dtt, dff, dtf, dft, dnt, dnf, deq, Bool.not_true, Bool.not_false, Bool.true_and, Bool.and_true, beq_self_eq_true, bne_self_eq_false]
      rw [mwp_fieldAddr_b (by simp (disch := first | omega | decide) only [go_sem, f0, f1, f2, opn_cond, hc, if_true, cellsOf_link, cellsOf_lsa, lsaEq_refl, newer, d33, d77, d10, d01, d10', d00, d11, dtt, dff, dtf, dft, dnt, dnf, deq, Bool.not_true, Bool.not_false, Bool.true_and, Bool.and_true, beq_self_eq_true, bne_self_eq_false]; rfl)]
      exact hK _
    apply aops_merge' (by decide) (by exact want_of (d := 25) rfl (by simp (disch := first | omega | decide) only [go_sem, f0, f1, f2, opn_cond, cellsOf_link, cellsOf_lsa, lsaEq_refl, newer, d33, d77, d10, d01, d10', d00, d11, dtt, dff, dtf, dft, dnt, dnf, deq, Bool.not_true, Bool.not_false, Bool.true_and, Bool.and_true, beq_self_eq_true, bne_self_eq_false]; rfl))
    · intro hc K hK
      have hc2 := hc
      simp only [beq_iff_eq, decide_eq_true_eq, decide_eq_false_iff_not, Bool.or_eq_true, Bool.and_eq_true, Bool.or_eq_false_iff, Bool.and_eq_false_iff] at hc2
      simp (disch := first | omega | decide) only [go_sem, f0, f1, f2, opn_cond, hc, if_true, act_load_t ti3, cellsOf_link, cellsOf_lsa, lsaEq_refl, newer, d33, d77, d10, d01, d10', d00, d11, dtt, dff, dtf, dft, dnt, dnf, deq, Bool.not_true, Bool.not_false, Bool.true_and, Bool.and_true, beq_self_eq_true, bne_self_eq_false]
      rw [mwp_load_b1 (by simp (disch := first | omega | decide) only [go_sem, f0, f1, f2, opn_cond, hc, if_true, cellsOf_link, cellsOf_lsa, lsaEq_refl, newer, d33, d77, d10, d01, d10', d00, d11, dtt, dff, dtf, dft, dnt, dnf, deq, Bool.not_true, Bool.not_false, Bool.true_and, Bool.and_true, beq_self_eq_true, bne_self_eq_false]; rfl) (by rfl)]
      exact hK _
    apply aops_merge' (by decide) (by exact want_of (d := 25) rfl (by simp (disch := first | omega | decide) only [go_sem, f0, f1, f2, opn_cond, cellsOf_link, cellsOf_lsa, lsaEq_refl, newer, d33, d77, d10, d01, d10', d00, d11, dtt, dff, dtf, dft, dnt, dnf, deq, Bool.not_true, Bool.not_false, Bool.true_and, Bool.and_true, beq_self_eq_true, bne_self_eq_false]; rfl))
    · intro hc K hK
      have hc2 := hc
      simp only [beq_iff_eq, decide_eq_true_eq, decide_eq_false_iff_not, Bool.or_eq_true, Bool.and_eq_true, Bool.or_eq_false_iff, Bool.and_eq_false_iff] at hc2
      simp (disch := first | omega | decide) only [go_sem, f0, f1, f2, opn_cond, hc, if_true, cellsOf_link, cellsOf_lsa, lsaEq_refl, newer, d33, d77, d10, d01, d10', d00, d11, dtt, dff, dtf, dft, dnt, dnf, deq, Bool.not_true, Bool.not_false, Bool.true_and, Bool.and_true, beq_self_eq_true, bne_self_eq_false]
      exact hK _
    iterate 2 (apply aops_step (by decide) rfl; · (intro K hK; simp (disch := first | omega | decide) only [go_sem, f0, f1, f2, cellsOf_link, cellsOf_lsa, lsaEq_refl, newer, d33, d77, d10, d01, d10', d00, d11, dtt, dff, dtf, dft, dnt, dnf, deq, Bool.not_true, Bool.not_false, Bool.true_and, Bool.and_true, beq_self_eq_true, bne_self_eq_false]; exact hK _))
    refine aops_nil ?_
    refine AW.seq ?_
    refine AW.draw (cfg := cfg) (by kernel_rfl) (by kernel_rfl) (by kernel_rfl) ?_
    apply adraw_step rfl
    · intro K hK
      simp (disch := first | omega | decide) only [go_sem, f0, f1, f2, act_load_t ti24, List.map, cellsOf_link, cellsOf_lsa, lsaEq_refl, newer, d33, d77, d10, d01, d10', d00, d11, dtt, dff, dtf, dft, dnt, dnf, deq, Bool.not_true, Bool.not_false, Bool.true_and, Bool.and_true, beq_self_eq_true, bne_self_eq_false]
      rw [mwp_load_bs (by simp (disch := first | omega | decide) only [go_sem, f0, f1, f2, cellsOf_link, cellsOf_lsa, lsaEq_refl, newer, d33, d77, d10, d01, d10', d00, d11, dtt, dff, dtf, dft, dnt, dnf, deq, Bool.not_true, Bool.not_false, Bool.true_and, Bool.and_true, beq_self_eq_true, bne_self_eq_false]; rfl) (by simp [setAt])]
      exact hK
    apply adraw_step rfl
    · intro K hK
      simp (disch := first | omega | decide) only [go_sem, f0, f1, f2, act_load_t ti24, List.map, cellsOf_link, cellsOf_lsa, lsaEq_refl, newer, d33, d77, d10, d01, d10', d00, d11, dtt, dff, dtf, dft, dnt, dnf, deq, Bool.not_true, Bool.not_false, Bool.true_and, Bool.and_true, beq_self_eq_true, bne_self_eq_false]
      rw [mwp_load_bs (by simp (disch := first | omega | decide) only [go_sem, f0, f1, f2, cellsOf_link, cellsOf_lsa, lsaEq_refl, newer, d33, d77, d10, d01, d10', d00, d11, dtt, dff, dtf, dft, dnt, dnf, deq, Bool.not_true, Bool.not_false, Bool.true_and, Bool.and_true, beq_self_eq_true, bne_self_eq_false]; rfl) (by simp [setAt])]
      exact hK
    apply adraw_step rfl
    · intro K hK
      simp (disch := first | omega | decide) only [go_sem, f0, f1, f2, act_call, List.map, cellsOf_link, cellsOf_lsa, lsaEq_refl, newer, d33, d77, d10, d01, d10', d00, d11, dtt, dff, dtf, dft, dnt, dnf, deq, Bool.not_true, Bool.not_false, Bool.true_and, Bool.and_true, beq_self_eq_true, bne_self_eq_false]
      apply mwp_call_s rfl rfl rfl
      · intro Q hQ
        simp (disch := first | omega | decide) only [go_sem, f0, f1, f2, peekL, reifyL_nil, reifyL_cons, reify_v, cellsOf_link, cellsOf_lsa, lsaEq_refl, newer, d33, d77, d10, d01, d10', d00, d11, dtt, dff, dtf, dft, dnt, dnf, deq, Bool.not_true, Bool.not_false, Bool.true_and, Bool.and_true, beq_self_eq_true, bne_self_eq_false]
        exact hQ
      · exact good_Newer x (by omega) y (by omega)
      · simp [-List.map_take, -List.map_drop, -List.map_append, -List.map_replicate, -List.reduceReplicate, noPtrL, noPtr, noPtrL_bsl, noPtrL_map, noPtrL_links, noPtr_lsa, noPtrL_lsas, sub]
      · rfl
      · exact hK
    iterate 3 (apply adraw_step rfl; · (intro K hK; simp (disch := first | omega | decide) only [go_sem, f0, f1, f2, bin_eql_b u4, cellsOf_link, cellsOf_lsa, lsaEq_refl, newer, d33, d77, d10, d01, d10', d00, d11, dtt, dff, dtf, dft, dnt, dnf, deq, Bool.not_true, Bool.not_false, Bool.true_and, Bool.and_true, beq_self_eq_true, bne_self_eq_false]; exact hK))
    apply adraw_step rfl
    · intro K hK
      simp (disch := first | omega | decide) only [go_sem, f0, f1, f2, act_load_t ti24, List.map, cellsOf_link, cellsOf_lsa, lsaEq_refl, newer, d33, d77, d10, d01, d10', d00, d11, dtt, dff, dtf, dft, dnt, dnf, deq, Bool.not_true, Bool.not_false, Bool.true_and, Bool.and_true, beq_self_eq_true, bne_self_eq_false]
      rw [mwp_load_bs (by simp (disch := first | omega | decide) only [go_sem, f0, f1, f2, cellsOf_link, cellsOf_lsa, lsaEq_refl, newer, d33, d77, d10, d01, d10', d00, d11, dtt, dff, dtf, dft, dnt, dnf, deq, Bool.not_true, Bool.not_false, Bool.true_and, Bool.and_true, beq_self_eq_true, bne_self_eq_false]; rfl) (by simp [setAt])]
      exact hK
    apply adraw_step rfl
    · intro K hK
      simp (disch := first | omega | decide) only [go_sem, f0, f1, f2, act_load_t ti24, List.map, cellsOf_link, cellsOf_lsa, lsaEq_refl, newer, d33, d77, d10, d01, d10', d00, d11, dtt, dff, dtf, dft, dnt, dnf, deq, Bool.not_true, Bool.not_false, Bool.true_and, Bool.and_true, beq_self_eq_true, bne_self_eq_false]
      rw [mwp_load_bs (by simp (disch := first | omega | decide) only [go_sem, f0, f1, f2, cellsOf_link, cellsOf_lsa, lsaEq_refl, newer, d33, d77, d10, d01, d10', d00, d11, dtt, dff, dtf, dft, dnt, dnf, deq, Bool.not_true, Bool.not_false, Bool.true_and, Bool.and_true, beq_self_eq_true, bne_self_eq_false]; rfl) (by simp [setAt])]
      exact hK
    apply adraw_step rfl
    · intro K hK
      simp (disch := first | omega | decide) only [go_sem, f0, f1, f2, act_call, List.map, cellsOf_link, cellsOf_lsa, lsaEq_refl, newer, d33, d77, d10, d01, d10', d00, d11, dtt, dff, dtf, dft, dnt, dnf, deq, Bool.not_true, Bool.not_false, Bool.true_and, Bool.and_true, beq_self_eq_true, bne_self_eq_false]
      apply mwp_call_s rfl rfl rfl
      · intro Q hQ
        simp (disch := first | omega | decide) only [go_sem, f0, f1, f2, peekL, reifyL_nil, reifyL_cons, reify_v, cellsOf_link, cellsOf_lsa, lsaEq_refl, newer, d33, d77, d10, d01, d10', d00, d11, dtt, dff, dtf, dft, dnt, dnf, deq, Bool.not_true, Bool.not_false, Bool.true_and, Bool.and_true, beq_self_eq_true, bne_self_eq_false]
        exact hQ
      · exact good_Same x (by omega) y (by omega)
      · simp [-List.map_take, -List.map_drop, -List.map_append, -List.map_replicate, -List.reduceReplicate, noPtrL, noPtr, noPtrL_bsl, noPtrL_map, noPtrL_links, noPtr_lsa, noPtrL_lsas, sub]
      · rfl
      · exact hK
    apply adraw_step rfl
    · intro K hK
      simp (disch := first | omega | decide) only [go_sem, f0, f1, f2, act_load_t ti24, List.map, cellsOf_link, cellsOf_lsa, lsaEq_refl, newer, d33, d77, d10, d01, d10', d00, d11, dtt, dff, dtf, dft, dnt, dnf, deq, Bool.not_true, Bool.not_false, Bool.true_and, Bool.and_true, beq_self_eq_true, bne_self_eq_false]
      rw [mwp_load_bs (by simp (disch := first | omega | decide) only [go_sem, f0, f1, f2, cellsOf_link, cellsOf_lsa, lsaEq_refl, newer, d33, d77, d10, d01, d10', d00, d11, dtt, dff, dtf, dft, dnt, dnf, deq, Bool.not_true, Bool.not_false, Bool.true_and, Bool.and_true, beq_self_eq_true, bne_self_eq_false]; rfl) (by simp [setAt])]
      exact hK
    apply adraw_step rfl
    · intro K hK
      simp (disch := first | omega | decide) only [go_sem, f0, f1, f2, act_load_t ti24, List.map, cellsOf_link, cellsOf_lsa, lsaEq_refl, newer, d33, d77, d10, d01, d10', d00, d11, dtt, dff, dtf, dft, dnt, dnf, deq, Bool.not_true, Bool.not_false, Bool.true_and, Bool.and_true, beq_self_eq_true, bne_self_eq_false]
      rw [mwp_load_bs (by simp (disch := first | omega | decide) only [go_sem, f0, f1, f2, cellsOf_link, cellsOf_lsa, lsaEq_refl, newer, d33, d77, d10, d01, d10', d00, d11, dtt, dff, dtf, dft, dnt, dnf, deq, Bool.not_true, Bool.not_false, Bool.true_and, Bool.and_true, beq_self_eq_true, bne_self_eq_false]; rfl) (by simp [setAt])]
      exact hK
    apply adraw_step rfl
    · intro K hK
      simp (disch := first | omega | decide) only [go_sem, f0, f1, f2, act_call, List.map, cellsOf_link, cellsOf_lsa, lsaEq_refl, newer, d33, d77, d10, d01, d10', d00, d11, dtt, dff, dtf, dft, dnt, dnf, deq, Bool.not_true, Bool.not_false, Bool.true_and, Bool.and_true, beq_self_eq_true, bne_self_eq_false]
      apply mwp_call_s rfl rfl rfl
      · intro Q hQ
        simp (disch := first | omega | decide) only [go_sem, f0, f1, f2, peekL, reifyL_nil, reifyL_cons, reify_v, cellsOf_link, cellsOf_lsa, lsaEq_refl, newer, d33, d77, d10, d01, d10', d00, d11, dtt, dff, dtf, dft, dnt, dnf, deq, Bool.not_true, Bool.not_false, Bool.true_and, Bool.and_true, beq_self_eq_true, bne_self_eq_false]
        exact hQ
      · exact good_refSame x (by omega) y (by omega)
      · simp [-List.map_take, -List.map_drop, -List.map_append, -List.map_replicate, -List.reduceReplicate, noPtrL, noPtr, noPtrL_bsl, noPtrL_map, noPtrL_links, noPtr_lsa, noPtrL_lsas, sub]
      · rfl
      · exact hK
    iterate 3 (apply adraw_step rfl; · (intro K hK; simp (disch := first | omega | decide) only [go_sem, f0, f1, f2, bin_eql_b u4, cellsOf_link, cellsOf_lsa, lsaEq_refl, newer, d33, d77, d10, d01, d10', d00, d11, dtt, dff, dtf, dft, dnt, dnf, deq, Bool.not_true, Bool.not_false, Bool.true_and, Bool.and_true, beq_self_eq_true, bne_self_eq_false]; exact hK))
    apply adraw_step rfl
    · intro K hK
      simp (disch := first | omega | decide) only [go_sem, f0, f1, f2, act_load_t ti24, List.map, cellsOf_link, cellsOf_lsa, lsaEq_refl, newer, d33, d77, d10, d01, d10', d00, d11, dtt, dff, dtf, dft, dnt, dnf, deq, Bool.not_true, Bool.not_false, Bool.true_and, Bool.and_true, beq_self_eq_true, bne_self_eq_false]
      rw [mwp_load_bs (by simp (disch := first | omega | decide) only [go_sem, f0, f1, f2, cellsOf_link, cellsOf_lsa, lsaEq_refl, newer, d33, d77, d10, d01, d10', d00, d11, dtt, dff, dtf, dft, dnt, dnf, deq, Bool.not_true, Bool.not_false, Bool.true_and, Bool.and_true, beq_self_eq_true, bne_self_eq_false]; rfl) (by simp [setAt])]
      exact hK
    iterate 1 (apply adraw_step rfl; · (intro K hK; simp (disch := first | omega | decide) only [go_sem, f0, f1, f2, cellsOf_link, cellsOf_lsa, lsaEq_refl, newer, d33, d77, d10, d01, d10', d00, d11, dtt, dff, dtf, dft, dnt, dnf, deq, Bool.not_true, Bool.not_false, Bool.true_and, Bool.and_true, beq_self_eq_true, bne_self_eq_false]; exact hK))
    apply adraw_step rfl
    · intro K hK
      simp (disch := first | omega | decide) only [go_sem, f0, f1, f2, act_call, List.map, cellsOf_link, cellsOf_lsa, lsaEq_refl, newer, d33, d77, d10, d01, d10', d00, d11, dtt, dff, dtf, dft, dnt, dnf, deq, Bool.not_true, Bool.not_false, Bool.true_and, Bool.and_true, beq_self_eq_true, bne_self_eq_false]
      apply mwp_call_s rfl rfl rfl
      · intro Q hQ
        simp (disch := first | omega | decide) only [go_sem, f0, f1, f2, peekL, reifyL_nil, reifyL_cons, reify_v, cellsOf_link, cellsOf_lsa, lsaEq_refl, newer, d33, d77, d10, d01, d10', d00, d11, dtt, dff, dtf, dft, dnt, dnf, deq, Bool.not_true, Bool.not_false, Bool.true_and, Bool.and_true, beq_self_eq_true, bne_self_eq_false]
        exact hQ
      · exact good_Cost x (by omega) to
      · simp [-List.map_take, -List.map_drop, -List.map_append, -List.map_replicate, -List.reduceReplicate, noPtrL, noPtr, noPtrL_bsl, noPtrL_map, noPtrL_links, noPtr_lsa, noPtrL_lsas, sub]
      · rfl
      · exact hK
    apply adraw_step rfl
    · intro K hK
      simp (disch := first | omega | decide) only [go_sem, f0, f1, f2, act_load_t ti24, List.map, cellsOf_link, cellsOf_lsa, lsaEq_refl, newer, d33, d77, d10, d01, d10', d00, d11, dtt, dff, dtf, dft, dnt, dnf, deq, Bool.not_true, Bool.not_false, Bool.true_and, Bool.and_true, beq_self_eq_true, bne_self_eq_false]
      rw [mwp_load_bs (by simp (disch := first | omega | decide) only [go_sem, f0, f1, f2, cellsOf_link, cellsOf_lsa, lsaEq_refl, newer, d33, d77, d10, d01, d10', d00, d11, dtt, dff, dtf, dft, dnt, dnf, deq, Bool.not_true, Bool.not_false, Bool.true_and, Bool.and_true, beq_self_eq_true, bne_self_eq_false]; rfl) (by simp [setAt])]
      exact hK
    iterate 1 (apply adraw_step rfl; · (intro K hK; simp (disch := first | omega | decide) only [go_sem, f0, f1, f2, cellsOf_link, cellsOf_lsa, lsaEq_refl, newer, d33, d77, d10, d01, d10', d00, d11, dtt, dff, dtf, dft, dnt, dnf, deq, Bool.not_true, Bool.not_false, Bool.true_and, Bool.and_true, beq_self_eq_true, bne_self_eq_false]; exact hK))
    apply adraw_step rfl
    · intro K hK
      simp (disch := first | omega | decide) only [go_sem, f0, f1, f2, act_call, List.map, cellsOf_link, cellsOf_lsa, lsaEq_refl, newer, d33, d77, d10, d01, d10', d00, d11, dtt, dff, dtf, dft, dnt, dnf, deq, Bool.not_true, Bool.not_false, Bool.true_and, Bool.and_true, beq_self_eq_true, bne_self_eq_false]
      apply mwp_call_s rfl rfl rfl
      · intro Q hQ
        simp (disch := first | omega | decide) only [go_sem, f0, f1, f2, peekL, reifyL_nil, reifyL_cons, reify_v, cellsOf_link, cellsOf_lsa, lsaEq_refl, newer, d33, d77, d10, d01, d10', d00, d11, dtt, dff, dtf, dft, dnt, dnf, deq, Bool.not_true, Bool.not_false, Bool.true_and, Bool.and_true, beq_self_eq_true, bne_self_eq_false]
        exact hQ
      · exact good_refCost x (by omega) to
      · simp [-List.map_take, -List.map_drop, -List.map_append, -List.map_replicate, -List.reduceReplicate, noPtrL, noPtr, noPtrL_bsl, noPtrL_map, noPtrL_links, noPtr_lsa, noPtrL_lsas, sub]
      · rfl
      · exact hK
    iterate 3 (apply adraw_step rfl; · (intro K hK; simp (disch := first | omega | decide) only [go_sem, f0, f1, f2, cellsOf_link, cellsOf_lsa, lsaEq_refl, newer, d33, d77, d10, d01, d10', d00, d11, dtt, dff, dtf, dft, dnt, dnf, deq, Bool.not_true, Bool.not_false, Bool.true_and, Bool.and_true, beq_self_eq_true, bne_self_eq_false]; exact hK))
    apply adraw_step rfl
    · intro K hK
      simp (disch := first | omega | decide) only [go_sem, f0, f1, f2, act_load_t ti24, List.map, cellsOf_link, cellsOf_lsa, lsaEq_refl, newer, d33, d77, d10, d01, d10', d00, d11, dtt, dff, dtf, dft, dnt, dnf, deq, Bool.not_true, Bool.not_false, Bool.true_and, Bool.and_true, beq_self_eq_true, bne_self_eq_false]
      rw [mwp_load_bs (by simp (disch := first | omega | decide) only [go_sem, f0, f1, f2, cellsOf_link, cellsOf_lsa, lsaEq_refl, newer, d33, d77, d10, d01, d10', d00, d11, dtt, dff, dtf, dft, dnt, dnf, deq, Bool.not_true, Bool.not_false, Bool.true_and, Bool.and_true, beq_self_eq_true, bne_self_eq_false]; rfl) (by simp [setAt])]
      exact hK
    apply adraw_step rfl
    · intro K hK
      simp (disch := first | omega | decide) only [go_sem, f0, f1, f2, act_load_t ti24, List.map, cellsOf_link, cellsOf_lsa, lsaEq_refl, newer, d33, d77, d10, d01, d10', d00, d11, dtt, dff, dtf, dft, dnt, dnf, deq, Bool.not_true, Bool.not_false, Bool.true_and, Bool.and_true, beq_self_eq_true, bne_self_eq_false]
      rw [mwp_load_bs (by simp (disch := first | omega | decide) only [go_sem, f0, f1, f2, cellsOf_link, cellsOf_lsa, lsaEq_refl, newer, d33, d77, d10, d01, d10', d00, d11, dtt, dff, dtf, dft, dnt, dnf, deq, Bool.not_true, Bool.not_false, Bool.true_and, Bool.and_true, beq_self_eq_true, bne_self_eq_false]; rfl) (by simp [setAt])]
      exact hK
    apply adraw_step rfl
    · intro K hK
      simp (disch := first | omega | decide) only [go_sem, f0, f1, f2, act_call, List.map, cellsOf_link, cellsOf_lsa, lsaEq_refl, newer, d33, d77, d10, d01, d10', d00, d11, dtt, dff, dtf, dft, dnt, dnf, deq, Bool.not_true, Bool.not_false, Bool.true_and, Bool.and_true, beq_self_eq_true, bne_self_eq_false]
      apply mwp_call_s rfl rfl rfl
      · intro Q hQ
        simp (disch := first | omega | decide) only [go_sem, f0, f1, f2, peekL, reifyL_nil, reifyL_cons, reify_v, cellsOf_link, cellsOf_lsa, lsaEq_refl, newer, d33, d77, d10, d01, d10', d00, d11, dtt, dff, dtf, dft, dnt, dnf, deq, Bool.not_true, Bool.not_false, Bool.true_and, Bool.and_true, beq_self_eq_true, bne_self_eq_false]
        exact hQ
      · exact good_refSame x (by omega) x (by omega)
      · simp [-List.map_take, -List.map_drop, -List.map_append, -List.map_replicate, -List.reduceReplicate, noPtrL, noPtr, noPtrL_bsl, noPtrL_map, noPtrL_links, noPtr_lsa, noPtrL_lsas, sub]
      · rfl
      · exact hK
    iterate 2 (apply adraw_step rfl; · (intro K hK; simp (disch := first | omega | decide) only [go_sem, f0, f1, f2, cellsOf_link, cellsOf_lsa, lsaEq_refl, newer, d33, d77, d10, d01, d10', d00, d11, dtt, dff, dtf, dft, dnt, dnf, deq, Bool.not_true, Bool.not_false, Bool.true_and, Bool.and_true, beq_self_eq_true, bne_self_eq_false]; exact hK))
    apply adraw_step rfl
    · intro K hK
      simp (disch := first | omega | decide) only [go_sem, f0, f1, f2, act_load_t ti24, List.map, cellsOf_link, cellsOf_lsa, lsaEq_refl, newer, d33, d77, d10, d01, d10', d00, d11, dtt, dff, dtf, dft, dnt, dnf, deq, Bool.not_true, Bool.not_false, Bool.true_and, Bool.and_true, beq_self_eq_true, bne_self_eq_false]
      rw [mwp_load_bs (by simp (disch := first | omega | decide) only [go_sem, f0, f1, f2, cellsOf_link, cellsOf_lsa, lsaEq_refl, newer, d33, d77, d10, d01, d10', d00, d11, dtt, dff, dtf, dft, dnt, dnf, deq, Bool.not_true, Bool.not_false, Bool.true_and, Bool.and_true, beq_self_eq_true, bne_self_eq_false]; rfl) (by simp [setAt])]
      exact hK
    apply adraw_step rfl
    · intro K hK
      simp (disch := first | omega | decide) only [go_sem, f0, f1, f2, act_load_t ti24, List.map, cellsOf_link, cellsOf_lsa, lsaEq_refl, newer, d33, d77, d10, d01, d10', d00, d11, dtt, dff, dtf, dft, dnt, dnf, deq, Bool.not_true, Bool.not_false, Bool.true_and, Bool.and_true, beq_self_eq_true, bne_self_eq_false]
      rw [mwp_load_bs (by simp (disch := first | omega | decide) only [go_sem, f0, f1, f2, cellsOf_link, cellsOf_lsa, lsaEq_refl, newer, d33, d77, d10, d01, d10', d00, d11, dtt, dff, dtf, dft, dnt, dnf, deq, Bool.not_true, Bool.not_false, Bool.true_and, Bool.and_true, beq_self_eq_true, bne_self_eq_false]; rfl) (by simp [setAt])]
      exact hK
    apply adraw_step rfl
    · intro K hK
      simp (disch := first | omega | decide) only [go_sem, f0, f1, f2, act_call, List.map, cellsOf_link, cellsOf_lsa, lsaEq_refl, newer, d33, d77, d10, d01, d10', d00, d11, dtt, dff, dtf, dft, dnt, dnf, deq, Bool.not_true, Bool.not_false, Bool.true_and, Bool.and_true, beq_self_eq_true, bne_self_eq_false]
      apply mwp_call_s rfl rfl rfl
      · intro Q hQ
        simp (disch := first | omega | decide) only [go_sem, f0, f1, f2, peekL, reifyL_nil, reifyL_cons, reify_v, cellsOf_link, cellsOf_lsa, lsaEq_refl, newer, d33, d77, d10, d01, d10', d00, d11, dtt, dff, dtf, dft, dnt, dnf, deq, Bool.not_true, Bool.not_false, Bool.true_and, Bool.and_true, beq_self_eq_true, bne_self_eq_false]
        exact hQ
      · exact good_Same x (by omega) x (by omega)
      · simp [-List.map_take, -List.map_drop, -List.map_append, -List.map_replicate, -List.reduceReplicate, noPtrL, noPtr, noPtrL_bsl, noPtrL_map, noPtrL_links, noPtr_lsa, noPtrL_lsas, sub]
      · rfl
      · exact hK
    iterate 2 (apply adraw_step rfl; · (intro K hK; simp (disch := first | omega | decide) only [go_sem, f0, f1, f2, cellsOf_link, cellsOf_lsa, lsaEq_refl, newer, d33, d77, d10, d01, d10', d00, d11, dtt, dff, dtf, dft, dnt, dnf, deq, Bool.not_true, Bool.not_false, Bool.true_and, Bool.and_true, beq_self_eq_true, bne_self_eq_false]; exact hK))
    apply adraw_step rfl
    · intro K hK
      simp (disch := first | omega | decide) only [go_sem, f0, f1, f2, act_call, List.map, cellsOf_link, cellsOf_lsa, lsaEq_refl, newer, d33, d77, d10, d01, d10', d00, d11, dtt, dff, dtf, dft, dnt, dnf, deq, Bool.not_true, Bool.not_false, Bool.true_and, Bool.and_true, beq_self_eq_true, bne_self_eq_false]
      apply mwp_call_s rfl rfl rfl
      · intro Q hQ
        simp (disch := first | omega | decide) only [go_sem, f0, f1, f2, peekL, reifyL_nil, reifyL_cons, reify_v, cellsOf_link, cellsOf_lsa, lsaEq_refl, newer, d33, d77, d10, d01, d10', d00, d11, dtt, dff, dtf, dft, dnt, dnf, deq, Bool.not_true, Bool.not_false, Bool.true_and, Bool.and_true, beq_self_eq_true, bne_self_eq_false]
        exact hQ
      · exact L.good_awake
      · simp [-List.map_take, -List.map_drop, -List.map_append, -List.map_replicate, -List.reduceReplicate, noPtrL, noPtr, noPtrL_bsl, noPtrL_map, noPtrL_links, noPtr_lsa, noPtrL_lsas, sub]
      · rfl
      · exact hK
    iterate 2 (apply adraw_step rfl; · (intro K hK; simp (disch := first | omega | decide) only [go_sem, f0, f1, f2, cellsOf_link, cellsOf_lsa, lsaEq_refl, newer, d33, d77, d10, d01, d10', d00, d11, dtt, dff, dtf, dft, dnt, dnf, deq, Bool.not_true, Bool.not_false, Bool.true_and, Bool.and_true, beq_self_eq_true, bne_self_eq_false]; exact hK))
    refine adraw_nil (by kernel_rfl) ?_
    refine AW.ret ?_
    refine ⟨.inr rfl, ?_⟩
    apply Exists.intro
    refine leaves_tmp1 6 rfl ?_ (by rfl)
    simp (disch := first | omega | decide) only [go_sem, f0, f1, f2, cellsOf_link, cellsOf_lsa, lsaEq_refl, newer, d33, d77, d10, d01, d10', d00, d11, dtt, dff, dtf, dft, dnt, dnf, deq, Bool.not_true, Bool.not_false, Bool.true_and, Bool.and_true, beq_self_eq_true, bne_self_eq_false]
    all_goals first | done | rfl | trace_state

end Go.Vai.L
