import Derived.Test.YtphmphdckkhblaaSpaceW
namespace Go.Vai.S
open Go.Proofs Go.Vai
set_option linter.unusedSimpArgs false
set_option linter.unusedVariables false
theorem us56 : isStruct Try.prog 56 = true := by kernel_rfl
theorem fl56 : flatT Try.prog 5 56 = some [.i, .i] := by kernel_rfl
theorem eg56 : Try.prog.eqGuardType Try.prog.depth 56 = false := by kernel_rfl
theorem u4 : Try.prog.underlying 4 = some .bool := by kernel_rfl

set_option maxHeartbeats 4000000 in
set_option maxRecDepth 100000 in
theorem good_SpaceTells (x u k : Int) (hx : -9223372036854775808 ≤ x ∧ x ≤ 9223372036854775807) (hu : -9223372036854775808 ≤ u ∧ u ≤ 9223372036854775807) (hk : -9223372036854775808 ≤ k ∧ k ≤ 9223372036854775807) : Good Try.prog 9 [(.agg [i64 x, i64 u], false), (i64 k, false)] [] [(.b true, false)] [] := by
  refine good_of_body2 194 Try.func9 rfl rfl rfl (by simp) ?_
  intro s m ha hr hv hG
  have f0 : s 0 = .v (.agg [i64 x, i64 u]) := ha 0 _ rfl
  have f1 : s 1 = .v (i64 k) := ha 1 _ rfl
  clear ha
  have ha := aN_range k
  refine AW.seq ?_
  refine AW.region (cfg := cfg) ?_
  apply aops_step (by decide) rfl
  · intro K hK
    simp (disch := first | omega | decide) only [go_sem, f0, f1, act_box_t ti56, List.map]
    rw [settleL_vish _ _ (by rfl)]
    simp (disch := first | omega | decide) only [go_sem, f0, f1, cellsL, List.map, List.length_cons, List.length_nil, Nat.reduceAdd, if_true]
    exact hK _
  iterate 1 (apply aops_step (by decide) rfl; · (intro K hK; simp (disch := first | omega | decide) only [go_sem, f0, f1]; exact hK _))
  refine aops_nil ?_
  refine AW.seq ?_
  refine AW.region (cfg := cfg) ?_
  iterate 1 (apply aops_step (by decide) rfl; · (intro K hK; simp (disch := first | omega | decide) only [go_sem, f0, f1]; exact hK _))
  apply aops_step (by decide) rfl
  · intro K hK
    simp (disch := first | omega | decide) only [go_sem, f0, f1, act_call, List.map]
    apply mwp_call_r rfl rfl rfl
    · intro Q hQ
      simp (disch := first | omega | decide) only [go_sem, f0, f1, peekL]
      first | exact hQ | (rw [peek_own (by simp (disch := first | omega | decide) only [go_sem, f0, f1, peekL]; rfl)]; exact hQ) | (rw [peek_own (by simp (disch := first | omega | decide) only [go_sem, f0, f1, peekL]; rfl)]; simp (disch := first | omega | decide) only [go_sem, f0, f1, peekL]; rw [peek_own (by simp (disch := first | omega | decide) only [go_sem, f0, f1, peekL]; rfl)]; exact hQ) | (rw [peek_own (by simp (disch := first | omega | decide) only [go_sem, f0, f1, peekL]; rfl)]; simp (disch := first | omega | decide) only [go_sem, f0, f1, peekL]; exact hQ)
    · exact good_After _ hk
    · simp [-List.map_take, -List.map_drop, noPtrL, noPtr, noPtrL_bsl, noPtrL_map, sub]
    · simp (disch := first | omega | decide) only [go_sem, f0, f1]
      exact hK _
  iterate 3 (apply aops_step (by decide) rfl; · (intro K hK; simp (disch := first | omega | decide) only [go_sem, f0, f1]; exact hK _))
  apply aops_step (by decide) rfl
  · intro K hK
    simp (disch := first | omega | decide) only [go_sem, f0, f1, act_alloc_t ti56, List.map]
    exact hK _
  apply aops_step0 rfl
  · intro K hK
    simp (disch := first | omega | decide) only [go_sem, f0, f1, act_store_t ti56, List.map]
    first | rw [mwp_store_c (by simp (disch := first | omega | decide) only [go_sem, f0, f1]; rfl) (by rfl) (by rfl) (by rfl) (by simp)] | rw [mwp_aStore_map (by simp (disch := first | omega | decide) only [go_sem, f0, f1]; rfl) (by first | omega | (simp; omega)) (fun _ => rfl) rfl rfl (fun _ => rfl)] | skip
    try simp only [setAt, cellsL, cellsOf_agg, cellsOf_base, List.map_cons, List.map_nil, List.set_cons_zero, List.set_cons_succ, Nat.reduceAdd, Nat.zero_add]
    exact hK _
  iterate 1 (apply aops_step (by decide) rfl; · (intro K hK; simp (disch := first | omega | decide) only [go_sem, f0, f1]; exact hK _))
  refine aops_nil ?_
  refine AW.seq ?_
  refine AW.region (cfg := cfg) ?_
  apply aops_step (by decide) rfl
  · intro K hK
    simp (disch := first | omega | decide) only [go_sem, f0, f1, act_load_t ti56, List.map]
    first | rw [mwp_load_bs (by simp (disch := first | omega | decide) only [go_sem, f0, f1]; rfl) (by simp)] | rw [mwp_load_b1 (by simp (disch := first | omega | decide) only [go_sem, f0, f1]; rfl) (by rfl)] | rw [mwp_aLoad_map (by simp (disch := first | omega | decide) only [go_sem, f0, f1]; rfl) (by first | omega | (simp; omega)) (fun _ => rfl)] | rw [mwp_aLoad_e1 (by simp (disch := first | omega | decide) only [go_sem, f0, f1]; rfl) (by simp) rfl] | skip
    exact hK _
  apply aops_step (by decide) rfl
  · intro K hK
    simp (disch := first | omega | decide) only [go_sem, f0, f1, act_call, List.map]
    apply mwp_call_r rfl rfl rfl
    · intro Q hQ
      simp (disch := first | omega | decide) only [go_sem, f0, f1, peekL]
      first | exact hQ | (rw [peek_own (by simp (disch := first | omega | decide) only [go_sem, f0, f1, peekL]; rfl)]; exact hQ) | (rw [peek_own (by simp (disch := first | omega | decide) only [go_sem, f0, f1, peekL]; rfl)]; simp (disch := first | omega | decide) only [go_sem, f0, f1, peekL]; rw [peek_own (by simp (disch := first | omega | decide) only [go_sem, f0, f1, peekL]; rfl)]; exact hQ) | (rw [peek_own (by simp (disch := first | omega | decide) only [go_sem, f0, f1, peekL]; rfl)]; simp (disch := first | omega | decide) only [go_sem, f0, f1, peekL]; exact hQ)
    · exact good_Take _ _ hx hu
    · simp [-List.map_take, -List.map_drop, noPtrL, noPtr, noPtrL_bsl, noPtrL_map, sub]
    · simp (disch := first | omega | decide) only [go_sem, f0, f1]
      exact hK _
  iterate 4 (apply aops_step (by decide) rfl; · (intro K hK; simp (disch := first | omega | decide) only [go_sem, f0, f1]; exact hK _))
  apply aops_step (by decide) rfl
  · intro K hK
    simp (disch := first | omega | decide) only [go_sem, f0, f1, act_alloc_t ti56, List.map]
    exact hK _
  iterate 1 (apply aops_step (by decide) rfl; · (intro K hK; simp (disch := first | omega | decide) only [go_sem, f0, f1]; exact hK _))
  apply aops_step0 rfl
  · intro K hK
    simp (disch := first | omega | decide) only [go_sem, f0, f1, act_store_t ti56, List.map]
    first | rw [mwp_store_c (by simp (disch := first | omega | decide) only [go_sem, f0, f1]; rfl) (by rfl) (by rfl) (by rfl) (by simp)] | rw [mwp_aStore_map (by simp (disch := first | omega | decide) only [go_sem, f0, f1]; rfl) (by first | omega | (simp; omega)) (fun _ => rfl) rfl rfl (fun _ => rfl)] | skip
    try simp only [setAt, cellsL, cellsOf_agg, cellsOf_base, List.map_cons, List.map_nil, List.set_cons_zero, List.set_cons_succ, Nat.reduceAdd, Nat.zero_add]
    exact hK _
  iterate 1 (apply aops_step (by decide) rfl; · (intro K hK; simp (disch := first | omega | decide) only [go_sem, f0, f1]; exact hK _))
  refine aops_nil ?_
  refine AW.seq ?_
  refine AW.region (cfg := cfg) ?_
  apply aops_step (by decide) rfl
  · intro K hK
    simp (disch := first | omega | decide) only [go_sem, f0, f1, act_load_t ti56, List.map]
    first | rw [mwp_load_bs (by simp (disch := first | omega | decide) only [go_sem, f0, f1]; rfl) (by simp)] | rw [mwp_load_b1 (by simp (disch := first | omega | decide) only [go_sem, f0, f1]; rfl) (by rfl)] | rw [mwp_aLoad_map (by simp (disch := first | omega | decide) only [go_sem, f0, f1]; rfl) (by first | omega | (simp; omega)) (fun _ => rfl)] | rw [mwp_aLoad_e1 (by simp (disch := first | omega | decide) only [go_sem, f0, f1]; rfl) (by simp) rfl] | skip
    exact hK _
  apply aops_step (by decide) rfl
  · intro K hK
    simp (disch := first | omega | decide) only [go_sem, f0, f1, act_call, List.map]
    apply mwp_call_r rfl rfl rfl
    · intro Q hQ
      simp (disch := first | omega | decide) only [go_sem, f0, f1, peekL]
      first | exact hQ | (rw [peek_own (by simp (disch := first | omega | decide) only [go_sem, f0, f1, peekL]; rfl)]; exact hQ) | (rw [peek_own (by simp (disch := first | omega | decide) only [go_sem, f0, f1, peekL]; rfl)]; simp (disch := first | omega | decide) only [go_sem, f0, f1, peekL]; rw [peek_own (by simp (disch := first | omega | decide) only [go_sem, f0, f1, peekL]; rfl)]; exact hQ) | (rw [peek_own (by simp (disch := first | omega | decide) only [go_sem, f0, f1, peekL]; rfl)]; simp (disch := first | omega | decide) only [go_sem, f0, f1, peekL]; exact hQ)
    · exact good_Want _ _ hx hu
    · simp [-List.map_take, -List.map_drop, noPtrL, noPtr, noPtrL_bsl, noPtrL_map, sub]
    · simp (disch := first | omega | decide) only [go_sem, f0, f1]
      exact hK _
  iterate 5 (apply aops_step (by decide) rfl; · (intro K hK; simp (disch := first | omega | decide) only [go_sem, f0, f1]; exact hK _))
  refine aops_nil ?_
  refine AW.seq ?_
  refine AW.region (cfg := cfg) ?_
  apply aops_step (by decide) rfl
  · intro K hK
    simp (disch := first | omega | decide) only [go_sem, f0, f1, act_load_t ti56, List.map]
    first | rw [mwp_load_bs (by simp (disch := first | omega | decide) only [go_sem, f0, f1]; rfl) (by simp)] | rw [mwp_load_b1 (by simp (disch := first | omega | decide) only [go_sem, f0, f1]; rfl) (by rfl)] | rw [mwp_aLoad_map (by simp (disch := first | omega | decide) only [go_sem, f0, f1]; rfl) (by first | omega | (simp; omega)) (fun _ => rfl)] | rw [mwp_aLoad_e1 (by simp (disch := first | omega | decide) only [go_sem, f0, f1]; rfl) (by simp) rfl] | skip
    exact hK _
  iterate 1 (apply aops_step (by decide) rfl; · (intro K hK; simp (disch := first | omega | decide) only [go_sem, f0, f1]; exact hK _))
  apply aops_step (by decide) rfl
  · intro K hK
    simp (disch := first | omega | decide) only [go_sem, f0, f1, act_call, List.map]
    apply mwp_call_r rfl rfl rfl
    · intro Q hQ
      simp (disch := first | omega | decide) only [go_sem, f0, f1, peekL]
      first | exact hQ | (rw [peek_own (by simp (disch := first | omega | decide) only [go_sem, f0, f1, peekL]; rfl)]; exact hQ) | (rw [peek_own (by simp (disch := first | omega | decide) only [go_sem, f0, f1, peekL]; rfl)]; simp (disch := first | omega | decide) only [go_sem, f0, f1, peekL]; rw [peek_own (by simp (disch := first | omega | decide) only [go_sem, f0, f1, peekL]; rfl)]; exact hQ) | (rw [peek_own (by simp (disch := first | omega | decide) only [go_sem, f0, f1, peekL]; rfl)]; simp (disch := first | omega | decide) only [go_sem, f0, f1, peekL]; exact hQ)
    · exact good_Grant _ _ _ hx hu hk
    · simp [-List.map_take, -List.map_drop, noPtrL, noPtr, noPtrL_bsl, noPtrL_map, sub]
    · simp (disch := first | omega | decide) only [go_sem, f0, f1]
      exact hK _
  iterate 3 (apply aops_step (by decide) rfl; · (intro K hK; simp (disch := first | omega | decide) only [go_sem, f0, f1]; exact hK _))
  apply aops_step (by decide) rfl
  · intro K hK
    simp (disch := first | omega | decide) only [go_sem, f0, f1, act_alloc_t ti56, List.map]
    exact hK _
  apply aops_step0 rfl
  · intro K hK
    simp (disch := first | omega | decide) only [go_sem, f0, f1, act_store_t ti56, List.map]
    first | rw [mwp_store_c (by simp (disch := first | omega | decide) only [go_sem, f0, f1]; rfl) (by rfl) (by rfl) (by rfl) (by simp)] | rw [mwp_aStore_map (by simp (disch := first | omega | decide) only [go_sem, f0, f1]; rfl) (by first | omega | (simp; omega)) (fun _ => rfl) rfl rfl (fun _ => rfl)] | skip
    try simp only [setAt, cellsL, cellsOf_agg, cellsOf_base, List.map_cons, List.map_nil, List.set_cons_zero, List.set_cons_succ, Nat.reduceAdd, Nat.zero_add]
    exact hK _
  iterate 1 (apply aops_step (by decide) rfl; · (intro K hK; simp (disch := first | omega | decide) only [go_sem, f0, f1]; exact hK _))
  refine aops_nil ?_
  refine AW.seq ?_
  refine AW.seq ?_
  refine AW.region (cfg := cfg) ?_
  iterate 3 (apply aops_step (by decide) rfl; · (intro K hK; simp (disch := first | omega | decide) only [go_sem, f0, f1]; exact hK _))
  apply aops_merge' (by decide) (by first | exact want_of (d := 39) rfl (by simp (disch := first | omega | decide) only [go_sem, f0, f1, opn_cond]; rfl) | exact want_of_cond (d := 39) rfl (by simp (disch := first | omega | decide) only [go_sem, f0, f1, opn_cond]; rfl))
  · intro hc K hK
    have hc2 := hc
    simp only [beq_iff_eq, decide_eq_true_eq, decide_eq_false_iff_not, Bool.or_eq_true, Bool.and_eq_true, Bool.or_eq_false_iff, Bool.and_eq_false_iff] at hc2
    simp (disch := first | omega | decide) only [go_sem, f0, f1, opn_cond, hc, if_true]
    exact hK _
  apply aops_merge' (by decide) (by first | exact want_of (d := 39) rfl (by simp (disch := first | omega | decide) only [go_sem, f0, f1, opn_cond]; rfl) | exact want_of_cond (d := 39) rfl (by simp (disch := first | omega | decide) only [go_sem, f0, f1, opn_cond]; rfl))
  · intro hc K hK
    have hc2 := hc
    simp only [beq_iff_eq, decide_eq_true_eq, decide_eq_false_iff_not, Bool.or_eq_true, Bool.and_eq_true, Bool.or_eq_false_iff, Bool.and_eq_false_iff] at hc2
    simp (disch := first | omega | decide) only [go_sem, f0, f1, opn_cond, hc, if_true]
    exact hK _
  iterate 1 (apply aops_step (by decide) rfl; · (intro K hK; simp (disch := first | omega | decide) only [go_sem, f0, f1]; exact hK _))
  refine aops_nil ?_
  apply AW.cond
  · simp (disch := first | omega | decide) only [go_sem, f0, f1]; rfl
  case ht =>
    intro hb
    try simp only [Bool.or_eq_true, Bool.and_eq_true, Bool.or_eq_false_iff, Bool.and_eq_false_iff, decide_eq_true_eq, decide_eq_false_iff_not] at hb
    have hbt42 := hb
    refine AW.seq ?_
    refine AW.region (cfg := cfg) ?_
    iterate 3 (apply aops_step (by decide) rfl; · (intro K hK; simp (disch := first | omega | decide) only [go_sem, f0, f1]; exact hK _))
    apply aops_merge' (by decide) (by first | exact want_of (d := 45) rfl (by simp (disch := first | omega | decide) only [go_sem, f0, f1, opn_cond]; rfl) | exact want_of_cond (d := 45) rfl (by simp (disch := first | omega | decide) only [go_sem, f0, f1, opn_cond]; rfl))
    · intro hc K hK
      have hc2 := hc
      simp only [beq_iff_eq, decide_eq_true_eq, decide_eq_false_iff_not, Bool.or_eq_true, Bool.and_eq_true, Bool.or_eq_false_iff, Bool.and_eq_false_iff] at hc2
      simp (disch := first | omega | decide) only [go_sem, f0, f1, opn_cond, hc, if_true, act_load_t ti56]
      first | rw [mwp_load_bs (by simp (disch := first | omega | decide) only [go_sem, f0, f1, opn_cond, hc, if_true]; rfl) (by simp)] | rw [mwp_load_b1 (by simp (disch := first | omega | decide) only [go_sem, f0, f1, opn_cond, hc, if_true]; rfl) (by rfl)] | rw [mwp_aLoad_map (by simp (disch := first | omega | decide) only [go_sem, f0, f1, opn_cond, hc, if_true]; rfl) (by first | omega | (simp; omega)) (fun _ => rfl)] | rw [mwp_aLoad_e1 (by simp (disch := first | omega | decide) only [go_sem, f0, f1, opn_cond, hc, if_true]; rfl) (by simp) rfl] | skip
      exact hK _
    apply aops_merge' (by decide) (by first | exact want_of (d := 45) rfl (by simp (disch := first | omega | decide) only [go_sem, f0, f1, opn_cond]; rfl) | exact want_of_cond (d := 45) rfl (by simp (disch := first | omega | decide) only [go_sem, f0, f1, opn_cond]; rfl))
    · intro hc K hK
      have hc2 := hc
      simp only [beq_iff_eq, decide_eq_true_eq, decide_eq_false_iff_not, Bool.or_eq_true, Bool.and_eq_true, Bool.or_eq_false_iff, Bool.and_eq_false_iff] at hc2
      simp (disch := first | omega | decide) only [go_sem, f0, f1, opn_cond, hc, if_true, act_build_t ti56 pl56]
      simp [-List.map_take, -List.map_drop, fillL, okOne, cellishAV, Value.oneCell', cellsL, cellsOf, setAt, M.bind, Mwp]
      exact hK _
    apply aops_merge' (by decide) (by first | exact want_of (d := 45) rfl (by simp (disch := first | omega | decide) only [go_sem, f0, f1, opn_cond]; rfl) | exact want_of_cond (d := 45) rfl (by simp (disch := first | omega | decide) only [go_sem, f0, f1, opn_cond]; rfl))
    · intro hc K hK
      have hc2 := hc
      simp only [beq_iff_eq, decide_eq_true_eq, decide_eq_false_iff_not, Bool.or_eq_true, Bool.and_eq_true, Bool.or_eq_false_iff, Bool.and_eq_false_iff] at hc2
      simp (disch := first | omega | decide) only [go_sem, f0, f1, opn_cond, hc, if_true, bin_neq_s us56 fl56 eg56]
      exact hK _
    iterate 1 (apply aops_step (by decide) rfl; · (intro K hK; simp (disch := first | omega | decide) only [go_sem, f0, f1]; exact hK _))
    refine aops_nil ?_
    apply AW.cond
    · simp (disch := first | omega | decide) only [go_sem, f0, f1]; rfl
    case ht =>
      intro hb
      try simp only [Bool.or_eq_true, Bool.and_eq_true, Bool.or_eq_false_iff, Bool.and_eq_false_iff, decide_eq_true_eq, decide_eq_false_iff_not] at hb
      have hbt49 := hb
      refine AW.seq ?_
      refine AW.region (cfg := cfg) ?_
      iterate 1 (apply aops_step (by decide) rfl; · (intro K hK; simp (disch := first | omega | decide) only [go_sem, f0, f1]; exact hK _))
      refine aops_nil ?_
      refine AW.ret ?_
      refine ⟨.inr rfl, ?_⟩
      refine leaves_tmp1 4 rfl ?_ (by first | rfl | exact hG)
      simp (disch := first | omega | decide) only [go_sem, f0, f1]
      clear hr hv hG f0 f1
      all_goals first | done | (cases hm : mayS x u <;> first | grind [aN, aU, aE, aBad, tV, tN, tU, tE, wV, wE, gN, gU, gE, gBad, rW] | trace_state)
    case hf =>
      intro hb
      try simp only [Bool.or_eq_true, Bool.and_eq_true, Bool.or_eq_false_iff, Bool.and_eq_false_iff, decide_eq_true_eq, decide_eq_false_iff_not] at hb
      have hbt49 := hb
      refine AW.skip ?_
      refine AW.seq ?_
      refine AW.seq ?_
      refine AW.region (cfg := cfg) ?_
      apply aops_step (by decide) rfl
      · intro K hK
        simp (disch := first | omega | decide) only [go_sem, f0, f1, act_load_t ti56, List.map]
        first | rw [mwp_load_bs (by simp (disch := first | omega | decide) only [go_sem, f0, f1]; rfl) (by simp)] | rw [mwp_load_b1 (by simp (disch := first | omega | decide) only [go_sem, f0, f1]; rfl) (by rfl)] | rw [mwp_aLoad_map (by simp (disch := first | omega | decide) only [go_sem, f0, f1]; rfl) (by first | omega | (simp; omega)) (fun _ => rfl)] | rw [mwp_aLoad_e1 (by simp (disch := first | omega | decide) only [go_sem, f0, f1]; rfl) (by simp) rfl] | skip
        exact hK _
      apply aops_step (by decide) rfl
      · intro K hK
        simp (disch := first | omega | decide) only [go_sem, f0, f1, act_call, List.map]
        apply mwp_call_s rfl rfl rfl
        · intro Q hQ
          simp (disch := first | omega | decide) only [go_sem, f0, f1, peekL]
          first | exact hQ | (rw [peek_own (by simp (disch := first | omega | decide) only [go_sem, f0, f1, peekL]; rfl)]; exact hQ) | (rw [peek_own (by simp (disch := first | omega | decide) only [go_sem, f0, f1, peekL]; rfl)]; simp (disch := first | omega | decide) only [go_sem, f0, f1, peekL]; rw [peek_own (by simp (disch := first | omega | decide) only [go_sem, f0, f1, peekL]; rfl)]; exact hQ) | (rw [peek_own (by simp (disch := first | omega | decide) only [go_sem, f0, f1, peekL]; rfl)]; simp (disch := first | omega | decide) only [go_sem, f0, f1, peekL]; exact hQ)
        · exact good_refMay _ _ hx hu
        · simp [-List.map_take, -List.map_drop, noPtrL, noPtr, noPtrL_bsl, noPtrL_map, sub]
        · rfl
        · exact hK _
      iterate 1 (apply aops_step (by decide) rfl; · (intro K hK; simp (disch := first | omega | decide) only [go_sem, f0, f1]; exact hK _))
      refine aops_nil ?_
      apply AW.cond
      · simp (disch := first | omega | decide) only [go_sem, f0, f1]; rfl
      case ht =>
        intro hb
        try simp only [Bool.or_eq_true, Bool.and_eq_true, Bool.or_eq_false_iff, Bool.and_eq_false_iff, decide_eq_true_eq, decide_eq_false_iff_not] at hb
        have hbt67 := hb
        refine AW.seq ?_
        refine AW.region (cfg := cfg) ?_
        iterate 3 (apply aops_step (by decide) rfl; · (intro K hK; simp (disch := first | omega | decide) only [go_sem, f0, f1]; exact hK _))
        apply aops_merge' (by decide) (by first | exact want_of (d := 70) rfl (by simp (disch := first | omega | decide) only [go_sem, f0, f1, opn_cond]; rfl) | exact want_of_cond (d := 70) rfl (by simp (disch := first | omega | decide) only [go_sem, f0, f1, opn_cond]; rfl))
        · intro hc K hK
          have hc2 := hc
          simp only [beq_iff_eq, decide_eq_true_eq, decide_eq_false_iff_not, Bool.or_eq_true, Bool.and_eq_true, Bool.or_eq_false_iff, Bool.and_eq_false_iff] at hc2
          simp (disch := first | omega | decide) only [go_sem, f0, f1, opn_cond, hc, if_true]
          exact hK _
        apply aops_merge' (by decide) (by first | exact want_of (d := 70) rfl (by simp (disch := first | omega | decide) only [go_sem, f0, f1, opn_cond]; rfl) | exact want_of_cond (d := 70) rfl (by simp (disch := first | omega | decide) only [go_sem, f0, f1, opn_cond]; rfl))
        · intro hc K hK
          have hc2 := hc
          simp only [beq_iff_eq, decide_eq_true_eq, decide_eq_false_iff_not, Bool.or_eq_true, Bool.and_eq_true, Bool.or_eq_false_iff, Bool.and_eq_false_iff] at hc2
          simp (disch := first | omega | decide) only [go_sem, f0, f1, opn_cond, hc, if_true]
          exact hK _
        iterate 2 (apply aops_step (by decide) rfl; · (intro K hK; simp (disch := first | omega | decide) only [go_sem, f0, f1]; exact hK _))
        apply aops_merge' (by decide) (by first | exact want_of (d := 74) rfl (by simp (disch := first | omega | decide) only [go_sem, f0, f1, opn_cond]; rfl) | exact want_of_cond (d := 74) rfl (by simp (disch := first | omega | decide) only [go_sem, f0, f1, opn_cond]; rfl))
        · intro hc K hK
          have hc2 := hc
          simp only [beq_iff_eq, decide_eq_true_eq, decide_eq_false_iff_not, Bool.or_eq_true, Bool.and_eq_true, Bool.or_eq_false_iff, Bool.and_eq_false_iff] at hc2
          simp (disch := first | omega | decide) only [go_sem, f0, f1, opn_cond, hc, if_true]
          exact hK _
        apply aops_merge' (by decide) (by first | exact want_of (d := 74) rfl (by simp (disch := first | omega | decide) only [go_sem, f0, f1, opn_cond]; rfl) | exact want_of_cond (d := 74) rfl (by simp (disch := first | omega | decide) only [go_sem, f0, f1, opn_cond]; rfl))
        · intro hc K hK
          have hc2 := hc
          simp only [beq_iff_eq, decide_eq_true_eq, decide_eq_false_iff_not, Bool.or_eq_true, Bool.and_eq_true, Bool.or_eq_false_iff, Bool.and_eq_false_iff] at hc2
          simp (disch := first | omega | decide) only [go_sem, f0, f1, opn_cond, hc, if_true]
          exact hK _
        iterate 2 (apply aops_step (by decide) rfl; · (intro K hK; simp (disch := first | omega | decide) only [go_sem, f0, f1]; exact hK _))
        apply aops_merge' (by decide) (by first | exact want_of (d := 78) rfl (by simp (disch := first | omega | decide) only [go_sem, f0, f1, opn_cond]; rfl) | exact want_of_cond (d := 78) rfl (by simp (disch := first | omega | decide) only [go_sem, f0, f1, opn_cond]; rfl))
        · intro hc K hK
          have hc2 := hc
          simp only [beq_iff_eq, decide_eq_true_eq, decide_eq_false_iff_not, Bool.or_eq_true, Bool.and_eq_true, Bool.or_eq_false_iff, Bool.and_eq_false_iff] at hc2
          simp (disch := first | omega | decide) only [go_sem, f0, f1, opn_cond, hc, if_true]
          exact hK _
        apply aops_merge' (by decide) (by first | exact want_of (d := 78) rfl (by simp (disch := first | omega | decide) only [go_sem, f0, f1, opn_cond]; rfl) | exact want_of_cond (d := 78) rfl (by simp (disch := first | omega | decide) only [go_sem, f0, f1, opn_cond]; rfl))
        · intro hc K hK
          have hc2 := hc
          simp only [beq_iff_eq, decide_eq_true_eq, decide_eq_false_iff_not, Bool.or_eq_true, Bool.and_eq_true, Bool.or_eq_false_iff, Bool.and_eq_false_iff] at hc2
          simp (disch := first | omega | decide) only [go_sem, f0, f1, opn_cond, hc, if_true]
          exact hK _
        iterate 2 (apply aops_step (by decide) rfl; · (intro K hK; simp (disch := first | omega | decide) only [go_sem, f0, f1]; exact hK _))
        apply aops_merge' (by decide) (by first | exact want_of (d := 82) rfl (by simp (disch := first | omega | decide) only [go_sem, f0, f1, opn_cond]; rfl) | exact want_of_cond (d := 82) rfl (by simp (disch := first | omega | decide) only [go_sem, f0, f1, opn_cond]; rfl))
        · intro hc K hK
          have hc2 := hc
          simp only [beq_iff_eq, decide_eq_true_eq, decide_eq_false_iff_not, Bool.or_eq_true, Bool.and_eq_true, Bool.or_eq_false_iff, Bool.and_eq_false_iff] at hc2
          simp (disch := first | omega | decide) only [go_sem, f0, f1, opn_cond, hc, if_true]
          exact hK _
        apply aops_merge' (by decide) (by first | exact want_of (d := 82) rfl (by simp (disch := first | omega | decide) only [go_sem, f0, f1, opn_cond]; rfl) | exact want_of_cond (d := 82) rfl (by simp (disch := first | omega | decide) only [go_sem, f0, f1, opn_cond]; rfl))
        · intro hc K hK
          have hc2 := hc
          simp only [beq_iff_eq, decide_eq_true_eq, decide_eq_false_iff_not, Bool.or_eq_true, Bool.and_eq_true, Bool.or_eq_false_iff, Bool.and_eq_false_iff] at hc2
          simp (disch := first | omega | decide) only [go_sem, f0, f1, opn_cond, hc, if_true]
          exact hK _
        iterate 2 (apply aops_step (by decide) rfl; · (intro K hK; simp (disch := first | omega | decide) only [go_sem, f0, f1]; exact hK _))
        apply aops_merge' (by decide) (by first | exact want_of (d := 86) rfl (by simp (disch := first | omega | decide) only [go_sem, f0, f1, opn_cond]; rfl) | exact want_of_cond (d := 86) rfl (by simp (disch := first | omega | decide) only [go_sem, f0, f1, opn_cond]; rfl))
        · intro hc K hK
          have hc2 := hc
          simp only [beq_iff_eq, decide_eq_true_eq, decide_eq_false_iff_not, Bool.or_eq_true, Bool.and_eq_true, Bool.or_eq_false_iff, Bool.and_eq_false_iff] at hc2
          simp (disch := first | omega | decide) only [go_sem, f0, f1, opn_cond, hc, if_true, act_load_t ti56]
          first | rw [mwp_load_bs (by simp (disch := first | omega | decide) only [go_sem, f0, f1, opn_cond, hc, if_true]; rfl) (by simp)] | rw [mwp_load_b1 (by simp (disch := first | omega | decide) only [go_sem, f0, f1, opn_cond, hc, if_true]; rfl) (by rfl)] | rw [mwp_aLoad_map (by simp (disch := first | omega | decide) only [go_sem, f0, f1, opn_cond, hc, if_true]; rfl) (by first | omega | (simp; omega)) (fun _ => rfl)] | rw [mwp_aLoad_e1 (by simp (disch := first | omega | decide) only [go_sem, f0, f1, opn_cond, hc, if_true]; rfl) (by simp) rfl] | skip
          exact hK _
        apply aops_merge' (by decide) (by first | exact want_of (d := 86) rfl (by simp (disch := first | omega | decide) only [go_sem, f0, f1, opn_cond]; rfl) | exact want_of_cond (d := 86) rfl (by simp (disch := first | omega | decide) only [go_sem, f0, f1, opn_cond]; rfl))
        · intro hc K hK
          have hc2 := hc
          simp only [beq_iff_eq, decide_eq_true_eq, decide_eq_false_iff_not, Bool.or_eq_true, Bool.and_eq_true, Bool.or_eq_false_iff, Bool.and_eq_false_iff] at hc2
          simp (disch := first | omega | decide) only [go_sem, f0, f1, opn_cond, hc, if_true, act_build_t ti56 pl56]
          simp [-List.map_take, -List.map_drop, fillL, okOne, cellishAV, Value.oneCell', cellsL, cellsOf, setAt, M.bind, Mwp]
          exact hK _
        apply aops_merge' (by decide) (by first | exact want_of (d := 86) rfl (by simp (disch := first | omega | decide) only [go_sem, f0, f1, opn_cond]; rfl) | exact want_of_cond (d := 86) rfl (by simp (disch := first | omega | decide) only [go_sem, f0, f1, opn_cond]; rfl))
        · intro hc K hK
          have hc2 := hc
          simp only [beq_iff_eq, decide_eq_true_eq, decide_eq_false_iff_not, Bool.or_eq_true, Bool.and_eq_true, Bool.or_eq_false_iff, Bool.and_eq_false_iff] at hc2
          simp (disch := first | omega | decide) only [go_sem, f0, f1, opn_cond, hc, if_true, bin_eql_s us56 fl56 eg56]
          exact hK _
        iterate 2 (apply aops_step (by decide) rfl; · (intro K hK; simp (disch := first | omega | decide) only [go_sem, f0, f1]; exact hK _))
        apply aops_merge' (by decide) (by first | exact want_of (d := 91) rfl (by simp (disch := first | omega | decide) only [go_sem, f0, f1, opn_cond]; rfl) | exact want_of_cond (d := 91) rfl (by simp (disch := first | omega | decide) only [go_sem, f0, f1, opn_cond]; rfl))
        · intro hc K hK
          have hc2 := hc
          simp only [beq_iff_eq, decide_eq_true_eq, decide_eq_false_iff_not, Bool.or_eq_true, Bool.and_eq_true, Bool.or_eq_false_iff, Bool.and_eq_false_iff] at hc2
          simp (disch := first | omega | decide) only [go_sem, f0, f1, opn_cond, hc, if_true, act_load_t ti56]
          first | rw [mwp_load_bs (by simp (disch := first | omega | decide) only [go_sem, f0, f1, opn_cond, hc, if_true]; rfl) (by simp)] | rw [mwp_load_b1 (by simp (disch := first | omega | decide) only [go_sem, f0, f1, opn_cond, hc, if_true]; rfl) (by rfl)] | rw [mwp_aLoad_map (by simp (disch := first | omega | decide) only [go_sem, f0, f1, opn_cond, hc, if_true]; rfl) (by first | omega | (simp; omega)) (fun _ => rfl)] | rw [mwp_aLoad_e1 (by simp (disch := first | omega | decide) only [go_sem, f0, f1, opn_cond, hc, if_true]; rfl) (by simp) rfl] | skip
          exact hK _
        apply aops_merge' (by decide) (by first | exact want_of (d := 91) rfl (by simp (disch := first | omega | decide) only [go_sem, f0, f1, opn_cond]; rfl) | exact want_of_cond (d := 91) rfl (by simp (disch := first | omega | decide) only [go_sem, f0, f1, opn_cond]; rfl))
        · intro hc K hK
          have hc2 := hc
          simp only [beq_iff_eq, decide_eq_true_eq, decide_eq_false_iff_not, Bool.or_eq_true, Bool.and_eq_true, Bool.or_eq_false_iff, Bool.and_eq_false_iff] at hc2
          simp (disch := first | omega | decide) only [go_sem, f0, f1, opn_cond, hc, if_true, act_build_t ti56 pl56]
          simp [-List.map_take, -List.map_drop, fillL, okOne, cellishAV, Value.oneCell', cellsL, cellsOf, setAt, M.bind, Mwp]
          exact hK _
        apply aops_merge' (by decide) (by first | exact want_of (d := 91) rfl (by simp (disch := first | omega | decide) only [go_sem, f0, f1, opn_cond]; rfl) | exact want_of_cond (d := 91) rfl (by simp (disch := first | omega | decide) only [go_sem, f0, f1, opn_cond]; rfl))
        · intro hc K hK
          have hc2 := hc
          simp only [beq_iff_eq, decide_eq_true_eq, decide_eq_false_iff_not, Bool.or_eq_true, Bool.and_eq_true, Bool.or_eq_false_iff, Bool.and_eq_false_iff] at hc2
          simp (disch := first | omega | decide) only [go_sem, f0, f1, opn_cond, hc, if_true, bin_eql_s us56 fl56 eg56]
          exact hK _
        iterate 2 (apply aops_step (by decide) rfl; · (intro K hK; simp (disch := first | omega | decide) only [go_sem, f0, f1]; exact hK _))
        apply aops_merge' (by decide) (by first | exact want_of (d := 96) rfl (by simp (disch := first | omega | decide) only [go_sem, f0, f1, opn_cond]; rfl) | exact want_of_cond (d := 96) rfl (by simp (disch := first | omega | decide) only [go_sem, f0, f1, opn_cond]; rfl))
        · intro hc K hK
          have hc2 := hc
          simp only [beq_iff_eq, decide_eq_true_eq, decide_eq_false_iff_not, Bool.or_eq_true, Bool.and_eq_true, Bool.or_eq_false_iff, Bool.and_eq_false_iff] at hc2
          simp (disch := first | omega | decide) only [go_sem, f0, f1, opn_cond, hc, if_true, act_call, List.map]
          apply mwp_call_s rfl rfl rfl
          · intro Q hQ
            simp (disch := first | omega | decide) only [go_sem, f0, f1, opn_cond, hc, if_true, peekL]
            first | exact hQ | (rw [peek_own (by simp (disch := first | omega | decide) only [go_sem, f0, f1, peekL]; rfl)]; exact hQ) | (rw [peek_own (by simp (disch := first | omega | decide) only [go_sem, f0, f1, peekL]; rfl)]; simp (disch := first | omega | decide) only [go_sem, f0, f1, peekL]; rw [peek_own (by simp (disch := first | omega | decide) only [go_sem, f0, f1, peekL]; rfl)]; exact hQ) | (rw [peek_own (by simp (disch := first | omega | decide) only [go_sem, f0, f1, peekL]; rfl)]; simp (disch := first | omega | decide) only [go_sem, f0, f1, peekL]; exact hQ)
          · exact good_awake
          · simp [-List.map_take, -List.map_drop, noPtrL, noPtr, noPtrL_bsl, noPtrL_map, sub]
          · rfl
          · exact hK _
        iterate 2 (apply aops_step (by decide) rfl; · (intro K hK; simp (disch := first | omega | decide) only [go_sem, f0, f1]; exact hK _))
        refine aops_nil ?_
        refine AW.ret ?_
        refine ⟨.inr rfl, ?_⟩
        refine leaves_tmp1 4 rfl ?_ (by first | rfl | exact hG)
        simp (disch := first | omega | decide) only [go_sem, f0, f1]
        clear hr hv hG f0 f1
        all_goals first | done | (cases hm : mayS x u <;> first | grind [aN, aU, aE, aBad, tV, tN, tU, tE, wV, wE, gN, gU, gE, gBad, rW] | trace_state)
      case hf =>
        intro hb
        try simp only [Bool.or_eq_true, Bool.and_eq_true, Bool.or_eq_false_iff, Bool.and_eq_false_iff, decide_eq_true_eq, decide_eq_false_iff_not] at hb
        have hbt67 := hb
        refine AW.skip ?_
        refine AW.seq ?_
        refine AW.seq ?_
        have hmr := mayS_range (x := x) (u := u) (by simpa using hbt67)
        refine AW.region (cfg := cfg) ?_
        apply aops_step (by decide) rfl
        · intro K hK
          simp (disch := first | omega | decide) only [go_sem, f0, f1, act_fieldAddr_t fo56_0, List.map]
          first | rw [mwp_fieldAddr_b (by simp (disch := first | omega | decide) only [go_sem, f0, f1]; rfl)] | skip
          exact hK _
        apply aops_step (by decide) rfl
        · intro K hK
          simp (disch := first | omega | decide) only [go_sem, f0, f1, act_load_t ti3, List.map]
          first | rw [mwp_load_bs (by simp (disch := first | omega | decide) only [go_sem, f0, f1]; rfl) (by simp)] | rw [mwp_load_b1 (by simp (disch := first | omega | decide) only [go_sem, f0, f1]; rfl) (by rfl)] | rw [mwp_aLoad_map (by simp (disch := first | omega | decide) only [go_sem, f0, f1]; rfl) (by first | omega | (simp; omega)) (fun _ => rfl)] | rw [mwp_aLoad_e1 (by simp (disch := first | omega | decide) only [go_sem, f0, f1]; rfl) (by simp) rfl] | skip
          exact hK _
        apply aops_step (by decide) rfl
        · intro K hK
          simp (disch := first | omega | decide) only [go_sem, f0, f1, act_fieldAddr_t fo56_1, List.map]
          first | rw [mwp_fieldAddr_b (by simp (disch := first | omega | decide) only [go_sem, f0, f1]; rfl)] | skip
          exact hK _
        apply aops_step (by decide) rfl
        · intro K hK
          simp (disch := first | omega | decide) only [go_sem, f0, f1, act_load_t ti3, List.map]
          first | rw [mwp_load_bs (by simp (disch := first | omega | decide) only [go_sem, f0, f1]; rfl) (by simp)] | rw [mwp_load_b1 (by simp (disch := first | omega | decide) only [go_sem, f0, f1]; rfl) (by rfl)] | rw [mwp_aLoad_map (by simp (disch := first | omega | decide) only [go_sem, f0, f1]; rfl) (by first | omega | (simp; omega)) (fun _ => rfl)] | rw [mwp_aLoad_e1 (by simp (disch := first | omega | decide) only [go_sem, f0, f1]; rfl) (by simp) rfl] | skip
          exact hK _
        iterate 2 (apply aops_step (by decide) rfl; · (intro K hK; simp (disch := first | omega | decide) only [go_sem, f0, f1]; exact hK _))
        apply aops_merge' (by decide) (by first | exact want_of (d := 104) rfl (by simp (disch := first | omega | decide) only [go_sem, f0, f1, opn_cond]; rfl) | exact want_of_cond (d := 104) rfl (by simp (disch := first | omega | decide) only [go_sem, f0, f1, opn_cond]; rfl))
        · intro hc K hK
          have hc2 := hc
          simp only [beq_iff_eq, decide_eq_true_eq, decide_eq_false_iff_not, Bool.or_eq_true, Bool.and_eq_true, Bool.or_eq_false_iff, Bool.and_eq_false_iff] at hc2
          simp (disch := first | omega | decide) only [go_sem, f0, f1, opn_cond, hc, if_true]
          exact hK _
        apply aops_merge' (by decide) (by first | exact want_of (d := 104) rfl (by simp (disch := first | omega | decide) only [go_sem, f0, f1, opn_cond]; rfl) | exact want_of_cond (d := 104) rfl (by simp (disch := first | omega | decide) only [go_sem, f0, f1, opn_cond]; rfl))
        · intro hc K hK
          have hc2 := hc
          simp only [beq_iff_eq, decide_eq_true_eq, decide_eq_false_iff_not, Bool.or_eq_true, Bool.and_eq_true, Bool.or_eq_false_iff, Bool.and_eq_false_iff] at hc2
          simp (disch := first | omega | decide) only [go_sem, f0, f1, opn_cond, hc, if_true]
          exact hK _
        apply aops_merge' (by decide) (by first | exact want_of (d := 104) rfl (by simp (disch := first | omega | decide) only [go_sem, f0, f1, opn_cond]; rfl) | exact want_of_cond (d := 104) rfl (by simp (disch := first | omega | decide) only [go_sem, f0, f1, opn_cond]; rfl))
        · intro hc K hK
          have hc2 := hc
          simp only [beq_iff_eq, decide_eq_true_eq, decide_eq_false_iff_not, Bool.or_eq_true, Bool.and_eq_true, Bool.or_eq_false_iff, Bool.and_eq_false_iff] at hc2
          simp (disch := first | omega | decide) only [go_sem, f0, f1, opn_cond, hc, if_true]
          exact hK _
        apply aops_merge' (by decide) (by first | exact want_of (d := 107) rfl (by simp (disch := first | omega | decide) only [go_sem, f0, f1, opn_cond]; rfl) | exact want_of_cond (d := 107) rfl (by simp (disch := first | omega | decide) only [go_sem, f0, f1, opn_cond]; rfl))
        · intro hc K hK
          have hc2 := hc
          simp only [beq_iff_eq, decide_eq_true_eq, decide_eq_false_iff_not, Bool.or_eq_true, Bool.and_eq_true, Bool.or_eq_false_iff, Bool.and_eq_false_iff] at hc2
          simp (disch := first | omega | decide) only [go_sem, f0, f1, opn_cond, hc, if_true]
          exact hK _
        apply aops_merge' (by decide) (by first | exact want_of (d := 107) rfl (by simp (disch := first | omega | decide) only [go_sem, f0, f1, opn_cond]; rfl) | exact want_of_cond (d := 107) rfl (by simp (disch := first | omega | decide) only [go_sem, f0, f1, opn_cond]; rfl))
        · intro hc K hK
          have hc2 := hc
          simp only [beq_iff_eq, decide_eq_true_eq, decide_eq_false_iff_not, Bool.or_eq_true, Bool.and_eq_true, Bool.or_eq_false_iff, Bool.and_eq_false_iff] at hc2
          simp (disch := first | omega | decide) only [go_sem, f0, f1, opn_cond, hc, if_true]
          exact hK _
        apply aops_merge' (by decide) (by first | exact want_of (d := 104) rfl (by simp (disch := first | omega | decide) only [go_sem, f0, f1, opn_cond]; rfl) | exact want_of_cond (d := 104) rfl (by simp (disch := first | omega | decide) only [go_sem, f0, f1, opn_cond]; rfl))
        · intro hc K hK
          have hc2 := hc
          simp only [beq_iff_eq, decide_eq_true_eq, decide_eq_false_iff_not, Bool.or_eq_true, Bool.and_eq_true, Bool.or_eq_false_iff, Bool.and_eq_false_iff] at hc2
          simp (disch := first | omega | decide) only [go_sem, f0, f1, opn_cond, hc, if_true]
          exact hK _
        apply aops_merge' (by decide) (by first | exact want_of (d := 104) rfl (by simp (disch := first | omega | decide) only [go_sem, f0, f1, opn_cond]; rfl) | exact want_of_cond (d := 104) rfl (by simp (disch := first | omega | decide) only [go_sem, f0, f1, opn_cond]; rfl))
        · intro hc K hK
          have hc2 := hc
          simp only [beq_iff_eq, decide_eq_true_eq, decide_eq_false_iff_not, Bool.or_eq_true, Bool.and_eq_true, Bool.or_eq_false_iff, Bool.and_eq_false_iff] at hc2
          simp (disch := first | omega | decide) only [go_sem, f0, f1, opn_cond, hc, if_true]
          exact hK _
        apply aops_merge' (by decide) (by first | exact want_of (d := 111) rfl (by simp (disch := first | omega | decide) only [go_sem, f0, f1, opn_cond]; rfl) | exact want_of_cond (d := 111) rfl (by simp (disch := first | omega | decide) only [go_sem, f0, f1, opn_cond]; rfl))
        · intro hc K hK
          have hc2 := hc
          simp only [beq_iff_eq, decide_eq_true_eq, decide_eq_false_iff_not, Bool.or_eq_true, Bool.and_eq_true, Bool.or_eq_false_iff, Bool.and_eq_false_iff] at hc2
          simp (disch := first | omega | decide) only [go_sem, f0, f1, opn_cond, hc, if_true, act_load_t ti56]
          first | rw [mwp_load_bs (by simp (disch := first | omega | decide) only [go_sem, f0, f1, opn_cond, hc, if_true]; rfl) (by simp)] | rw [mwp_load_b1 (by simp (disch := first | omega | decide) only [go_sem, f0, f1, opn_cond, hc, if_true]; rfl) (by rfl)] | rw [mwp_aLoad_map (by simp (disch := first | omega | decide) only [go_sem, f0, f1, opn_cond, hc, if_true]; rfl) (by first | omega | (simp; omega)) (fun _ => rfl)] | rw [mwp_aLoad_e1 (by simp (disch := first | omega | decide) only [go_sem, f0, f1, opn_cond, hc, if_true]; rfl) (by simp) rfl] | skip
          exact hK _
        apply aops_merge' (by decide) (by first | exact want_of (d := 111) rfl (by simp (disch := first | omega | decide) only [go_sem, f0, f1, opn_cond]; rfl) | exact want_of_cond (d := 111) rfl (by simp (disch := first | omega | decide) only [go_sem, f0, f1, opn_cond]; rfl))
        · intro hc K hK
          have hc2 := hc
          simp only [beq_iff_eq, decide_eq_true_eq, decide_eq_false_iff_not, Bool.or_eq_true, Bool.and_eq_true, Bool.or_eq_false_iff, Bool.and_eq_false_iff] at hc2
          simp (disch := first | omega | decide) only [go_sem, f0, f1, opn_cond, hc, if_true, act_build_t ti56 pl56]
          simp [-List.map_take, -List.map_drop, fillL, okOne, cellishAV, Value.oneCell', cellsL, cellsOf, setAt, M.bind, Mwp]
          exact hK _
        apply aops_merge' (by decide) (by first | exact want_of (d := 111) rfl (by simp (disch := first | omega | decide) only [go_sem, f0, f1, opn_cond]; rfl) | exact want_of_cond (d := 111) rfl (by simp (disch := first | omega | decide) only [go_sem, f0, f1, opn_cond]; rfl))
        · intro hc K hK
          have hc2 := hc
          simp only [beq_iff_eq, decide_eq_true_eq, decide_eq_false_iff_not, Bool.or_eq_true, Bool.and_eq_true, Bool.or_eq_false_iff, Bool.and_eq_false_iff] at hc2
          simp (disch := first | omega | decide) only [go_sem, f0, f1, opn_cond, hc, if_true, bin_neq_s us56 fl56 eg56]
          exact hK _
        apply aops_merge' (by decide) (by first | exact want_of (d := 104) rfl (by simp (disch := first | omega | decide) only [go_sem, f0, f1, opn_cond]; rfl) | exact want_of_cond (d := 104) rfl (by simp (disch := first | omega | decide) only [go_sem, f0, f1, opn_cond]; rfl))
        · intro hc K hK
          have hc2 := hc
          simp only [beq_iff_eq, decide_eq_true_eq, decide_eq_false_iff_not, Bool.or_eq_true, Bool.and_eq_true, Bool.or_eq_false_iff, Bool.and_eq_false_iff] at hc2
          simp (disch := first | omega | decide) only [go_sem, f0, f1, opn_cond, hc, if_true]
          exact hK _
        iterate 2 (apply aops_step (by decide) rfl; · (intro K hK; simp (disch := first | omega | decide) only [go_sem, f0, f1]; exact hK _))
        apply aops_merge' (by decide) (by first | exact want_of (d := 117) rfl (by simp (disch := first | omega | decide) only [go_sem, f0, f1, opn_cond]; rfl) | exact want_of_cond (d := 117) rfl (by simp (disch := first | omega | decide) only [go_sem, f0, f1, opn_cond]; rfl))
        · intro hc K hK
          have hc2 := hc
          simp only [beq_iff_eq, decide_eq_true_eq, decide_eq_false_iff_not, Bool.or_eq_true, Bool.and_eq_true, Bool.or_eq_false_iff, Bool.and_eq_false_iff] at hc2
          simp (disch := first | omega | decide) only [go_sem, f0, f1, opn_cond, hc, if_true, act_fieldAddr_t fo56_0]
          first | rw [mwp_fieldAddr_b (by simp (disch := first | omega | decide) only [go_sem, f0, f1, opn_cond, hc, if_true]; rfl)] | skip
          exact hK _
        apply aops_merge' (by decide) (by first | exact want_of (d := 117) rfl (by simp (disch := first | omega | decide) only [go_sem, f0, f1, opn_cond]; rfl) | exact want_of_cond (d := 117) rfl (by simp (disch := first | omega | decide) only [go_sem, f0, f1, opn_cond]; rfl))
        · intro hc K hK
          have hc2 := hc
          simp only [beq_iff_eq, decide_eq_true_eq, decide_eq_false_iff_not, Bool.or_eq_true, Bool.and_eq_true, Bool.or_eq_false_iff, Bool.and_eq_false_iff] at hc2
          simp (disch := first | omega | decide) only [go_sem, f0, f1, opn_cond, hc, if_true, act_load_t ti3]
          first | rw [mwp_load_bs (by simp (disch := first | omega | decide) only [go_sem, f0, f1, opn_cond, hc, if_true]; rfl) (by simp)] | rw [mwp_load_b1 (by simp (disch := first | omega | decide) only [go_sem, f0, f1, opn_cond, hc, if_true]; rfl) (by rfl)] | rw [mwp_aLoad_map (by simp (disch := first | omega | decide) only [go_sem, f0, f1, opn_cond, hc, if_true]; rfl) (by first | omega | (simp; omega)) (fun _ => rfl)] | rw [mwp_aLoad_e1 (by simp (disch := first | omega | decide) only [go_sem, f0, f1, opn_cond, hc, if_true]; rfl) (by simp) rfl] | skip
          exact hK _
        apply aops_merge' (by decide) (by first | exact want_of (d := 117) rfl (by simp (disch := first | omega | decide) only [go_sem, f0, f1, opn_cond]; rfl) | exact want_of_cond (d := 117) rfl (by simp (disch := first | omega | decide) only [go_sem, f0, f1, opn_cond]; rfl))
        · intro hc K hK
          have hc2 := hc
          simp only [beq_iff_eq, decide_eq_true_eq, decide_eq_false_iff_not, Bool.or_eq_true, Bool.and_eq_true, Bool.or_eq_false_iff, Bool.and_eq_false_iff] at hc2
          simp (disch := first | omega | decide) only [go_sem, f0, f1, opn_cond, hc, if_true, act_fieldAddr_t fo56_1]
          first | rw [mwp_fieldAddr_b (by simp (disch := first | omega | decide) only [go_sem, f0, f1, opn_cond, hc, if_true]; rfl)] | skip
          exact hK _
        apply aops_merge' (by decide) (by first | exact want_of (d := 117) rfl (by simp (disch := first | omega | decide) only [go_sem, f0, f1, opn_cond]; rfl) | exact want_of_cond (d := 117) rfl (by simp (disch := first | omega | decide) only [go_sem, f0, f1, opn_cond]; rfl))
        · intro hc K hK
          have hc2 := hc
          simp only [beq_iff_eq, decide_eq_true_eq, decide_eq_false_iff_not, Bool.or_eq_true, Bool.and_eq_true, Bool.or_eq_false_iff, Bool.and_eq_false_iff] at hc2
          simp (disch := first | omega | decide) only [go_sem, f0, f1, opn_cond, hc, if_true, act_load_t ti3]
          first | rw [mwp_load_bs (by simp (disch := first | omega | decide) only [go_sem, f0, f1, opn_cond, hc, if_true]; rfl) (by simp)] | rw [mwp_load_b1 (by simp (disch := first | omega | decide) only [go_sem, f0, f1, opn_cond, hc, if_true]; rfl) (by rfl)] | rw [mwp_aLoad_map (by simp (disch := first | omega | decide) only [go_sem, f0, f1, opn_cond, hc, if_true]; rfl) (by first | omega | (simp; omega)) (fun _ => rfl)] | rw [mwp_aLoad_e1 (by simp (disch := first | omega | decide) only [go_sem, f0, f1, opn_cond, hc, if_true]; rfl) (by simp) rfl] | skip
          exact hK _
        apply aops_merge' (by decide) (by first | exact want_of (d := 117) rfl (by simp (disch := first | omega | decide) only [go_sem, f0, f1, opn_cond]; rfl) | exact want_of_cond (d := 117) rfl (by simp (disch := first | omega | decide) only [go_sem, f0, f1, opn_cond]; rfl))
        · intro hc K hK
          have hc2 := hc
          simp only [beq_iff_eq, decide_eq_true_eq, decide_eq_false_iff_not, Bool.or_eq_true, Bool.and_eq_true, Bool.or_eq_false_iff, Bool.and_eq_false_iff] at hc2
          simp (disch := first | omega | decide) only [go_sem, f0, f1, opn_cond, hc, if_true]
          exact hK _
        apply aops_merge' (by decide) (by first | exact want_of (d := 117) rfl (by simp (disch := first | omega | decide) only [go_sem, f0, f1, opn_cond]; rfl) | exact want_of_cond (d := 117) rfl (by simp (disch := first | omega | decide) only [go_sem, f0, f1, opn_cond]; rfl))
        · intro hc K hK
          have hc2 := hc
          simp only [beq_iff_eq, decide_eq_true_eq, decide_eq_false_iff_not, Bool.or_eq_true, Bool.and_eq_true, Bool.or_eq_false_iff, Bool.and_eq_false_iff] at hc2
          simp (disch := first | omega | decide) only [go_sem, f0, f1, opn_cond, hc, if_true]
          exact hK _
        apply aops_merge' (by decide) (by first | exact want_of (d := 123) rfl (by simp (disch := first | omega | decide) only [go_sem, f0, f1, opn_cond]; rfl) | exact want_of_cond (d := 123) rfl (by simp (disch := first | omega | decide) only [go_sem, f0, f1, opn_cond]; rfl))
        · intro hc K hK
          have hc2 := hc
          simp only [beq_iff_eq, decide_eq_true_eq, decide_eq_false_iff_not, Bool.or_eq_true, Bool.and_eq_true, Bool.or_eq_false_iff, Bool.and_eq_false_iff] at hc2
          simp (disch := first | omega | decide) only [go_sem, f0, f1, opn_cond, hc, if_true]
          exact hK _
        apply aops_merge' (by decide) (by first | exact want_of (d := 123) rfl (by simp (disch := first | omega | decide) only [go_sem, f0, f1, opn_cond]; rfl) | exact want_of_cond (d := 123) rfl (by simp (disch := first | omega | decide) only [go_sem, f0, f1, opn_cond]; rfl))
        · intro hc K hK
          have hc2 := hc
          simp only [beq_iff_eq, decide_eq_true_eq, decide_eq_false_iff_not, Bool.or_eq_true, Bool.and_eq_true, Bool.or_eq_false_iff, Bool.and_eq_false_iff] at hc2
          simp (disch := first | omega | decide) only [go_sem, f0, f1, opn_cond, hc, if_true]
          exact hK _
        apply aops_merge' (by decide) (by first | exact want_of (d := 123) rfl (by simp (disch := first | omega | decide) only [go_sem, f0, f1, opn_cond]; rfl) | exact want_of_cond (d := 123) rfl (by simp (disch := first | omega | decide) only [go_sem, f0, f1, opn_cond]; rfl))
        · intro hc K hK
          have hc2 := hc
          simp only [beq_iff_eq, decide_eq_true_eq, decide_eq_false_iff_not, Bool.or_eq_true, Bool.and_eq_true, Bool.or_eq_false_iff, Bool.and_eq_false_iff] at hc2
          simp (disch := first | omega | decide) only [go_sem, f0, f1, opn_cond, hc, if_true]
          exact hK _
        apply aops_merge' (by decide) (by first | exact want_of (d := 126) rfl (by simp (disch := first | omega | decide) only [go_sem, f0, f1, opn_cond]; rfl) | exact want_of_cond (d := 126) rfl (by simp (disch := first | omega | decide) only [go_sem, f0, f1, opn_cond]; rfl))
        · intro hc K hK
          have hc2 := hc
          simp only [beq_iff_eq, decide_eq_true_eq, decide_eq_false_iff_not, Bool.or_eq_true, Bool.and_eq_true, Bool.or_eq_false_iff, Bool.and_eq_false_iff] at hc2
          simp (disch := first | omega | decide) only [go_sem, f0, f1, opn_cond, hc, if_true]
          exact hK _
        apply aops_merge' (by decide) (by first | exact want_of (d := 126) rfl (by simp (disch := first | omega | decide) only [go_sem, f0, f1, opn_cond]; rfl) | exact want_of_cond (d := 126) rfl (by simp (disch := first | omega | decide) only [go_sem, f0, f1, opn_cond]; rfl))
        · intro hc K hK
          have hc2 := hc
          simp only [beq_iff_eq, decide_eq_true_eq, decide_eq_false_iff_not, Bool.or_eq_true, Bool.and_eq_true, Bool.or_eq_false_iff, Bool.and_eq_false_iff] at hc2
          simp (disch := first | omega | decide) only [go_sem, f0, f1, opn_cond, hc, if_true, act_fieldAddr_t fo56_0]
          first | rw [mwp_fieldAddr_b (by simp (disch := first | omega | decide) only [go_sem, f0, f1, opn_cond, hc, if_true]; rfl)] | skip
          exact hK _
        apply aops_merge' (by decide) (by first | exact want_of (d := 126) rfl (by simp (disch := first | omega | decide) only [go_sem, f0, f1, opn_cond]; rfl) | exact want_of_cond (d := 126) rfl (by simp (disch := first | omega | decide) only [go_sem, f0, f1, opn_cond]; rfl))
        · intro hc K hK
          have hc2 := hc
          simp only [beq_iff_eq, decide_eq_true_eq, decide_eq_false_iff_not, Bool.or_eq_true, Bool.and_eq_true, Bool.or_eq_false_iff, Bool.and_eq_false_iff] at hc2
          simp (disch := first | omega | decide) only [go_sem, f0, f1, opn_cond, hc, if_true, act_load_t ti3]
          first | rw [mwp_load_bs (by simp (disch := first | omega | decide) only [go_sem, f0, f1, opn_cond, hc, if_true]; rfl) (by simp)] | rw [mwp_load_b1 (by simp (disch := first | omega | decide) only [go_sem, f0, f1, opn_cond, hc, if_true]; rfl) (by rfl)] | rw [mwp_aLoad_map (by simp (disch := first | omega | decide) only [go_sem, f0, f1, opn_cond, hc, if_true]; rfl) (by first | omega | (simp; omega)) (fun _ => rfl)] | rw [mwp_aLoad_e1 (by simp (disch := first | omega | decide) only [go_sem, f0, f1, opn_cond, hc, if_true]; rfl) (by simp) rfl] | skip
          exact hK _
        apply aops_merge' (by decide) (by first | exact want_of (d := 126) rfl (by simp (disch := first | omega | decide) only [go_sem, f0, f1, opn_cond]; rfl) | exact want_of_cond (d := 126) rfl (by simp (disch := first | omega | decide) only [go_sem, f0, f1, opn_cond]; rfl))
        · intro hc K hK
          have hc2 := hc
          simp only [beq_iff_eq, decide_eq_true_eq, decide_eq_false_iff_not, Bool.or_eq_true, Bool.and_eq_true, Bool.or_eq_false_iff, Bool.and_eq_false_iff] at hc2
          simp (disch := first | omega | decide) only [go_sem, f0, f1, opn_cond, hc, if_true]
          exact hK _
        apply aops_merge' (by decide) (by first | exact want_of (d := 123) rfl (by simp (disch := first | omega | decide) only [go_sem, f0, f1, opn_cond]; rfl) | exact want_of_cond (d := 123) rfl (by simp (disch := first | omega | decide) only [go_sem, f0, f1, opn_cond]; rfl))
        · intro hc K hK
          have hc2 := hc
          simp only [beq_iff_eq, decide_eq_true_eq, decide_eq_false_iff_not, Bool.or_eq_true, Bool.and_eq_true, Bool.or_eq_false_iff, Bool.and_eq_false_iff] at hc2
          simp (disch := first | omega | decide) only [go_sem, f0, f1, opn_cond, hc, if_true]
          exact hK _
        apply aops_merge' (by decide) (by first | exact want_of (d := 123) rfl (by simp (disch := first | omega | decide) only [go_sem, f0, f1, opn_cond]; rfl) | exact want_of_cond (d := 123) rfl (by simp (disch := first | omega | decide) only [go_sem, f0, f1, opn_cond]; rfl))
        · intro hc K hK
          have hc2 := hc
          simp only [beq_iff_eq, decide_eq_true_eq, decide_eq_false_iff_not, Bool.or_eq_true, Bool.and_eq_true, Bool.or_eq_false_iff, Bool.and_eq_false_iff] at hc2
          simp (disch := first | omega | decide) only [go_sem, f0, f1, opn_cond, hc, if_true]
          exact hK _
        apply aops_merge' (by decide) (by first | exact want_of (d := 132) rfl (by simp (disch := first | omega | decide) only [go_sem, f0, f1, opn_cond]; rfl) | exact want_of_cond (d := 132) rfl (by simp (disch := first | omega | decide) only [go_sem, f0, f1, opn_cond]; rfl))
        · intro hc K hK
          have hc2 := hc
          simp only [beq_iff_eq, decide_eq_true_eq, decide_eq_false_iff_not, Bool.or_eq_true, Bool.and_eq_true, Bool.or_eq_false_iff, Bool.and_eq_false_iff] at hc2
          simp (disch := first | omega | decide) only [go_sem, f0, f1, opn_cond, hc, if_true, act_load_t ti56]
          first | rw [mwp_load_bs (by simp (disch := first | omega | decide) only [go_sem, f0, f1, opn_cond, hc, if_true]; rfl) (by simp)] | rw [mwp_load_b1 (by simp (disch := first | omega | decide) only [go_sem, f0, f1, opn_cond, hc, if_true]; rfl) (by rfl)] | rw [mwp_aLoad_map (by simp (disch := first | omega | decide) only [go_sem, f0, f1, opn_cond, hc, if_true]; rfl) (by first | omega | (simp; omega)) (fun _ => rfl)] | rw [mwp_aLoad_e1 (by simp (disch := first | omega | decide) only [go_sem, f0, f1, opn_cond, hc, if_true]; rfl) (by simp) rfl] | skip
          exact hK _
        apply aops_merge' (by decide) (by first | exact want_of (d := 132) rfl (by simp (disch := first | omega | decide) only [go_sem, f0, f1, opn_cond]; rfl) | exact want_of_cond (d := 132) rfl (by simp (disch := first | omega | decide) only [go_sem, f0, f1, opn_cond]; rfl))
        · intro hc K hK
          have hc2 := hc
          simp only [beq_iff_eq, decide_eq_true_eq, decide_eq_false_iff_not, Bool.or_eq_true, Bool.and_eq_true, Bool.or_eq_false_iff, Bool.and_eq_false_iff] at hc2
          simp (disch := first | omega | decide) only [go_sem, f0, f1, opn_cond, hc, if_true, act_fieldAddr_t fo56_0]
          first | rw [mwp_fieldAddr_b (by simp (disch := first | omega | decide) only [go_sem, f0, f1, opn_cond, hc, if_true]; rfl)] | skip
          exact hK _
        apply aops_merge' (by decide) (by first | exact want_of (d := 132) rfl (by simp (disch := first | omega | decide) only [go_sem, f0, f1, opn_cond]; rfl) | exact want_of_cond (d := 132) rfl (by simp (disch := first | omega | decide) only [go_sem, f0, f1, opn_cond]; rfl))
        · intro hc K hK
          have hc2 := hc
          simp only [beq_iff_eq, decide_eq_true_eq, decide_eq_false_iff_not, Bool.or_eq_true, Bool.and_eq_true, Bool.or_eq_false_iff, Bool.and_eq_false_iff] at hc2
          simp (disch := first | omega | decide) only [go_sem, f0, f1, opn_cond, hc, if_true, act_load_t ti3]
          first | rw [mwp_load_bs (by simp (disch := first | omega | decide) only [go_sem, f0, f1, opn_cond, hc, if_true]; rfl) (by simp)] | rw [mwp_load_b1 (by simp (disch := first | omega | decide) only [go_sem, f0, f1, opn_cond, hc, if_true]; rfl) (by rfl)] | rw [mwp_aLoad_map (by simp (disch := first | omega | decide) only [go_sem, f0, f1, opn_cond, hc, if_true]; rfl) (by first | omega | (simp; omega)) (fun _ => rfl)] | rw [mwp_aLoad_e1 (by simp (disch := first | omega | decide) only [go_sem, f0, f1, opn_cond, hc, if_true]; rfl) (by simp) rfl] | skip
          exact hK _
        apply aops_merge' (by decide) (by first | exact want_of (d := 132) rfl (by simp (disch := first | omega | decide) only [go_sem, f0, f1, opn_cond]; rfl) | exact want_of_cond (d := 132) rfl (by simp (disch := first | omega | decide) only [go_sem, f0, f1, opn_cond]; rfl))
        · intro hc K hK
          have hc2 := hc
          simp only [beq_iff_eq, decide_eq_true_eq, decide_eq_false_iff_not, Bool.or_eq_true, Bool.and_eq_true, Bool.or_eq_false_iff, Bool.and_eq_false_iff] at hc2
          simp (disch := first | omega | decide) only [go_sem, f0, f1, opn_cond, hc, if_true]
          exact hK _
        apply aops_merge' (by decide) (by first | exact want_of (d := 132) rfl (by simp (disch := first | omega | decide) only [go_sem, f0, f1, opn_cond]; rfl) | exact want_of_cond (d := 132) rfl (by simp (disch := first | omega | decide) only [go_sem, f0, f1, opn_cond]; rfl))
        · intro hc K hK
          have hc2 := hc
          simp only [beq_iff_eq, decide_eq_true_eq, decide_eq_false_iff_not, Bool.or_eq_true, Bool.and_eq_true, Bool.or_eq_false_iff, Bool.and_eq_false_iff] at hc2
          simp (disch := first | omega | decide) only [go_sem, f0, f1, opn_cond, hc, if_true, act_fieldAddr_t fo56_1]
          first | rw [mwp_fieldAddr_b (by simp (disch := first | omega | decide) only [go_sem, f0, f1, opn_cond, hc, if_true]; rfl)] | skip
          exact hK _
        apply aops_merge' (by decide) (by first | exact want_of (d := 132) rfl (by simp (disch := first | omega | decide) only [go_sem, f0, f1, opn_cond]; rfl) | exact want_of_cond (d := 132) rfl (by simp (disch := first | omega | decide) only [go_sem, f0, f1, opn_cond]; rfl))
        · intro hc K hK
          have hc2 := hc
          simp only [beq_iff_eq, decide_eq_true_eq, decide_eq_false_iff_not, Bool.or_eq_true, Bool.and_eq_true, Bool.or_eq_false_iff, Bool.and_eq_false_iff] at hc2
          simp (disch := first | omega | decide) only [go_sem, f0, f1, opn_cond, hc, if_true, act_load_t ti3]
          first | rw [mwp_load_bs (by simp (disch := first | omega | decide) only [go_sem, f0, f1, opn_cond, hc, if_true]; rfl) (by simp)] | rw [mwp_load_b1 (by simp (disch := first | omega | decide) only [go_sem, f0, f1, opn_cond, hc, if_true]; rfl) (by rfl)] | rw [mwp_aLoad_map (by simp (disch := first | omega | decide) only [go_sem, f0, f1, opn_cond, hc, if_true]; rfl) (by first | omega | (simp; omega)) (fun _ => rfl)] | rw [mwp_aLoad_e1 (by simp (disch := first | omega | decide) only [go_sem, f0, f1, opn_cond, hc, if_true]; rfl) (by simp) rfl] | skip
          exact hK _
        apply aops_merge' (by decide) (by first | exact want_of (d := 132) rfl (by simp (disch := first | omega | decide) only [go_sem, f0, f1, opn_cond]; rfl) | exact want_of_cond (d := 132) rfl (by simp (disch := first | omega | decide) only [go_sem, f0, f1, opn_cond]; rfl))
        · intro hc K hK
          have hc2 := hc
          simp only [beq_iff_eq, decide_eq_true_eq, decide_eq_false_iff_not, Bool.or_eq_true, Bool.and_eq_true, Bool.or_eq_false_iff, Bool.and_eq_false_iff] at hc2
          simp (disch := first | omega | decide) only [go_sem, f0, f1, opn_cond, hc, if_true, act_build_t ti56 pl56]
          simp [-List.map_take, -List.map_drop, fillL, okOne, cellishAV, Value.oneCell', cellsL, cellsOf, setAt, M.bind, Mwp]
          exact hK _
        apply aops_merge' (by decide) (by first | exact want_of (d := 132) rfl (by simp (disch := first | omega | decide) only [go_sem, f0, f1, opn_cond]; rfl) | exact want_of_cond (d := 132) rfl (by simp (disch := first | omega | decide) only [go_sem, f0, f1, opn_cond]; rfl))
        · intro hc K hK
          have hc2 := hc
          simp only [beq_iff_eq, decide_eq_true_eq, decide_eq_false_iff_not, Bool.or_eq_true, Bool.and_eq_true, Bool.or_eq_false_iff, Bool.and_eq_false_iff] at hc2
          simp (disch := first | omega | decide) only [go_sem, f0, f1, opn_cond, hc, if_true, bin_neq_s us56 fl56 eg56]
          exact hK _
        apply aops_merge' (by decide) (by first | exact want_of (d := 123) rfl (by simp (disch := first | omega | decide) only [go_sem, f0, f1, opn_cond]; rfl) | exact want_of_cond (d := 123) rfl (by simp (disch := first | omega | decide) only [go_sem, f0, f1, opn_cond]; rfl))
        · intro hc K hK
          have hc2 := hc
          simp only [beq_iff_eq, decide_eq_true_eq, decide_eq_false_iff_not, Bool.or_eq_true, Bool.and_eq_true, Bool.or_eq_false_iff, Bool.and_eq_false_iff] at hc2
          simp (disch := first | omega | decide) only [go_sem, f0, f1, opn_cond, hc, if_true]
          exact hK _
        apply aops_merge' (by decide) (by first | exact want_of (d := 117) rfl (by simp (disch := first | omega | decide) only [go_sem, f0, f1, opn_cond]; rfl) | exact want_of_cond (d := 117) rfl (by simp (disch := first | omega | decide) only [go_sem, f0, f1, opn_cond]; rfl))
        · intro hc K hK
          have hc2 := hc
          simp only [beq_iff_eq, decide_eq_true_eq, decide_eq_false_iff_not, Bool.or_eq_true, Bool.and_eq_true, Bool.or_eq_false_iff, Bool.and_eq_false_iff] at hc2
          simp (disch := first | omega | decide) only [go_sem, f0, f1, opn_cond, hc, if_true]
          exact hK _
        iterate 1 (apply aops_step (by decide) rfl; · (intro K hK; simp (disch := first | omega | decide) only [go_sem, f0, f1]; exact hK _))
        refine aops_nil ?_
        apply AW.cond
        · simp (disch := first | omega | decide) only [go_sem, f0, f1]; rfl
        case ht =>
          intro hb
          try simp only [Bool.or_eq_true, Bool.and_eq_true, Bool.or_eq_false_iff, Bool.and_eq_false_iff, decide_eq_true_eq, decide_eq_false_iff_not] at hb
          have hbt143 := hb
          refine AW.seq ?_
          refine AW.region (cfg := cfg) ?_
          iterate 1 (apply aops_step (by decide) rfl; · (intro K hK; simp (disch := first | omega | decide) only [go_sem, f0, f1]; exact hK _))
          refine aops_nil ?_
          refine AW.ret ?_
          refine ⟨.inr rfl, ?_⟩
          refine leaves_tmp1 4 rfl ?_ (by first | rfl | exact hG)
          simp (disch := first | omega | decide) only [go_sem, f0, f1]
          clear hr hv hG f0 f1
          all_goals first | done | (cases hm : mayS x u <;> first | grind [aN, aU, aE, aBad, tV, tN, tU, tE, wV, wE, gN, gU, gE, gBad, rW] | trace_state)
        case hf =>
          intro hb
          try simp only [Bool.or_eq_true, Bool.and_eq_true, Bool.or_eq_false_iff, Bool.and_eq_false_iff, decide_eq_true_eq, decide_eq_false_iff_not] at hb
          have hbt143 := hb
          refine AW.skip ?_
          refine AW.seq ?_
          refine AW.region (cfg := cfg) ?_
          apply aops_step (by decide) rfl
          · intro K hK
            simp (disch := first | omega | decide) only [go_sem, f0, f1, act_load_t ti56, List.map]
            first | rw [mwp_load_bs (by simp (disch := first | omega | decide) only [go_sem, f0, f1]; rfl) (by simp)] | rw [mwp_load_b1 (by simp (disch := first | omega | decide) only [go_sem, f0, f1]; rfl) (by rfl)] | rw [mwp_aLoad_map (by simp (disch := first | omega | decide) only [go_sem, f0, f1]; rfl) (by first | omega | (simp; omega)) (fun _ => rfl)] | rw [mwp_aLoad_e1 (by simp (disch := first | omega | decide) only [go_sem, f0, f1]; rfl) (by simp) rfl] | skip
            exact hK _
          apply aops_step (by decide) rfl
          · intro K hK
            simp (disch := first | omega | decide) only [go_sem, f0, f1, act_call, List.map]
            apply mwp_call_s rfl rfl rfl
            · intro Q hQ
              simp (disch := first | omega | decide) only [go_sem, f0, f1, peekL]
              first | exact hQ | (rw [peek_own (by simp (disch := first | omega | decide) only [go_sem, f0, f1, peekL]; rfl)]; exact hQ) | (rw [peek_own (by simp (disch := first | omega | decide) only [go_sem, f0, f1, peekL]; rfl)]; simp (disch := first | omega | decide) only [go_sem, f0, f1, peekL]; rw [peek_own (by simp (disch := first | omega | decide) only [go_sem, f0, f1, peekL]; rfl)]; exact hQ) | (rw [peek_own (by simp (disch := first | omega | decide) only [go_sem, f0, f1, peekL]; rfl)]; simp (disch := first | omega | decide) only [go_sem, f0, f1, peekL]; exact hQ)
            · exact good_refWant _ _ (by omega)
            · simp [-List.map_take, -List.map_drop, noPtrL, noPtr, noPtrL_bsl, noPtrL_map, sub]
            · rfl
            · exact hK _
          iterate 1 (apply aops_step (by decide) rfl; · (intro K hK; simp (disch := first | omega | decide) only [go_sem, f0, f1]; exact hK _))
          refine aops_nil ?_
          refine AW.seq ?_
          refine AW.seq ?_
          refine AW.region (cfg := cfg) ?_
          iterate 4 (apply aops_step (by decide) rfl; · (intro K hK; simp (disch := first | omega | decide) only [go_sem, f0, f1]; exact hK _))
          apply aops_merge' (by decide) (by first | exact want_of (d := 149) rfl (by simp (disch := first | omega | decide) only [go_sem, f0, f1, opn_cond]; rfl) | exact want_of_cond (d := 149) rfl (by simp (disch := first | omega | decide) only [go_sem, f0, f1, opn_cond]; rfl))
          · intro hc K hK
            have hc2 := hc
            simp only [beq_iff_eq, decide_eq_true_eq, decide_eq_false_iff_not, Bool.or_eq_true, Bool.and_eq_true, Bool.or_eq_false_iff, Bool.and_eq_false_iff] at hc2
            simp (disch := first | omega | decide) only [go_sem, f0, f1, opn_cond, hc, if_true]
            exact hK _
          apply aops_merge' (by decide) (by first | exact want_of (d := 149) rfl (by simp (disch := first | omega | decide) only [go_sem, f0, f1, opn_cond]; rfl) | exact want_of_cond (d := 149) rfl (by simp (disch := first | omega | decide) only [go_sem, f0, f1, opn_cond]; rfl))
          · intro hc K hK
            have hc2 := hc
            simp only [beq_iff_eq, decide_eq_true_eq, decide_eq_false_iff_not, Bool.or_eq_true, Bool.and_eq_true, Bool.or_eq_false_iff, Bool.and_eq_false_iff] at hc2
            simp (disch := first | omega | decide) only [go_sem, f0, f1, opn_cond, hc, if_true]
            exact hK _
          apply aops_merge' (by decide) (by first | exact want_of (d := 149) rfl (by simp (disch := first | omega | decide) only [go_sem, f0, f1, opn_cond]; rfl) | exact want_of_cond (d := 149) rfl (by simp (disch := first | omega | decide) only [go_sem, f0, f1, opn_cond]; rfl))
          · intro hc K hK
            have hc2 := hc
            simp only [beq_iff_eq, decide_eq_true_eq, decide_eq_false_iff_not, Bool.or_eq_true, Bool.and_eq_true, Bool.or_eq_false_iff, Bool.and_eq_false_iff] at hc2
            simp (disch := first | omega | decide) only [go_sem, f0, f1, opn_cond, hc, if_true]
            exact hK _
          apply aops_merge' (by decide) (by first | exact want_of (d := 149) rfl (by simp (disch := first | omega | decide) only [go_sem, f0, f1, opn_cond]; rfl) | exact want_of_cond (d := 149) rfl (by simp (disch := first | omega | decide) only [go_sem, f0, f1, opn_cond]; rfl))
          · intro hc K hK
            have hc2 := hc
            simp only [beq_iff_eq, decide_eq_true_eq, decide_eq_false_iff_not, Bool.or_eq_true, Bool.and_eq_true, Bool.or_eq_false_iff, Bool.and_eq_false_iff] at hc2
            simp (disch := first | omega | decide) only [go_sem, f0, f1, opn_cond, hc, if_true]
            exact hK _
          apply aops_merge' (by decide) (by first | exact want_of (d := 149) rfl (by simp (disch := first | omega | decide) only [go_sem, f0, f1, opn_cond]; rfl) | exact want_of_cond (d := 149) rfl (by simp (disch := first | omega | decide) only [go_sem, f0, f1, opn_cond]; rfl))
          · intro hc K hK
            have hc2 := hc
            simp only [beq_iff_eq, decide_eq_true_eq, decide_eq_false_iff_not, Bool.or_eq_true, Bool.and_eq_true, Bool.or_eq_false_iff, Bool.and_eq_false_iff] at hc2
            simp (disch := first | omega | decide) only [go_sem, f0, f1, opn_cond, hc, if_true, bin_neq_b u4]
            exact hK _
          iterate 2 (apply aops_step (by decide) rfl; · (intro K hK; simp (disch := first | omega | decide) only [go_sem, f0, f1]; exact hK _))
          apply aops_merge' (by decide) (by first | exact want_of (d := 156) rfl (by simp (disch := first | omega | decide) only [go_sem, f0, f1, opn_cond]; rfl) | exact want_of_cond (d := 156) rfl (by simp (disch := first | omega | decide) only [go_sem, f0, f1, opn_cond]; rfl))
          · intro hc K hK
            have hc2 := hc
            simp only [beq_iff_eq, decide_eq_true_eq, decide_eq_false_iff_not, Bool.or_eq_true, Bool.and_eq_true, Bool.or_eq_false_iff, Bool.and_eq_false_iff] at hc2
            simp (disch := first | omega | decide) only [go_sem, f0, f1, opn_cond, hc, if_true]
            exact hK _
          apply aops_merge' (by decide) (by first | exact want_of (d := 156) rfl (by simp (disch := first | omega | decide) only [go_sem, f0, f1, opn_cond]; rfl) | exact want_of_cond (d := 156) rfl (by simp (disch := first | omega | decide) only [go_sem, f0, f1, opn_cond]; rfl))
          · intro hc K hK
            have hc2 := hc
            simp only [beq_iff_eq, decide_eq_true_eq, decide_eq_false_iff_not, Bool.or_eq_true, Bool.and_eq_true, Bool.or_eq_false_iff, Bool.and_eq_false_iff] at hc2
            simp (disch := first | omega | decide) only [go_sem, f0, f1, opn_cond, hc, if_true]
            exact hK _
          apply aops_merge' (by decide) (by first | exact want_of (d := 156) rfl (by simp (disch := first | omega | decide) only [go_sem, f0, f1, opn_cond]; rfl) | exact want_of_cond (d := 156) rfl (by simp (disch := first | omega | decide) only [go_sem, f0, f1, opn_cond]; rfl))
          · intro hc K hK
            have hc2 := hc
            simp only [beq_iff_eq, decide_eq_true_eq, decide_eq_false_iff_not, Bool.or_eq_true, Bool.and_eq_true, Bool.or_eq_false_iff, Bool.and_eq_false_iff] at hc2
            simp (disch := first | omega | decide) only [go_sem, f0, f1, opn_cond, hc, if_true]
            exact hK _
          apply aops_merge' (by decide) (by first | exact want_of (d := 156) rfl (by simp (disch := first | omega | decide) only [go_sem, f0, f1, opn_cond]; rfl) | exact want_of_cond (d := 156) rfl (by simp (disch := first | omega | decide) only [go_sem, f0, f1, opn_cond]; rfl))
          · intro hc K hK
            have hc2 := hc
            simp only [beq_iff_eq, decide_eq_true_eq, decide_eq_false_iff_not, Bool.or_eq_true, Bool.and_eq_true, Bool.or_eq_false_iff, Bool.and_eq_false_iff] at hc2
            simp (disch := first | omega | decide) only [go_sem, f0, f1, opn_cond, hc, if_true]
            exact hK _
          apply aops_merge' (by decide) (by first | exact want_of (d := 156) rfl (by simp (disch := first | omega | decide) only [go_sem, f0, f1, opn_cond]; rfl) | exact want_of_cond (d := 156) rfl (by simp (disch := first | omega | decide) only [go_sem, f0, f1, opn_cond]; rfl))
          · intro hc K hK
            have hc2 := hc
            simp only [beq_iff_eq, decide_eq_true_eq, decide_eq_false_iff_not, Bool.or_eq_true, Bool.and_eq_true, Bool.or_eq_false_iff, Bool.and_eq_false_iff] at hc2
            simp (disch := first | omega | decide) only [go_sem, f0, f1, opn_cond, hc, if_true, bin_neq_b u4]
            exact hK _
          iterate 1 (apply aops_step (by decide) rfl; · (intro K hK; simp (disch := first | omega | decide) only [go_sem, f0, f1]; exact hK _))
          refine aops_nil ?_
          apply AW.cond
          · simp (disch := first | omega | decide) only [go_sem, f0, f1]; rfl
          case ht =>
            intro hb
            try simp only [Bool.or_eq_true, Bool.and_eq_true, Bool.or_eq_false_iff, Bool.and_eq_false_iff, decide_eq_true_eq, decide_eq_false_iff_not] at hb
            have hbt162 := hb
            refine AW.seq ?_
            refine AW.region (cfg := cfg) ?_
            iterate 1 (apply aops_step (by decide) rfl; · (intro K hK; simp (disch := first | omega | decide) only [go_sem, f0, f1]; exact hK _))
            refine aops_nil ?_
            refine AW.ret ?_
            refine ⟨.inr rfl, ?_⟩
            refine leaves_tmp1 4 rfl ?_ (by first | rfl | exact hG)
            simp (disch := first | omega | decide) only [go_sem, f0, f1]
            clear hr hv hG f0 f1
            all_goals first | done | (cases hm : mayS x u <;> first | grind [aN, aU, aE, aBad, tV, tN, tU, tE, wV, wE, gN, gU, gE, gBad, rW] | trace_state)
          case hf =>
            intro hb
            try simp only [Bool.or_eq_true, Bool.and_eq_true, Bool.or_eq_false_iff, Bool.and_eq_false_iff, decide_eq_true_eq, decide_eq_false_iff_not] at hb
            have hbt162 := hb
            refine AW.skip ?_
            refine AW.seq ?_
            refine AW.seq ?_
            refine AW.region (cfg := cfg) ?_
            iterate 1 (apply aops_step (by decide) rfl; · (intro K hK; simp (disch := first | omega | decide) only [go_sem, f0, f1]; exact hK _))
            apply aops_step (by decide) rfl
            · intro K hK
              simp (disch := first | omega | decide) only [go_sem, f0, f1, act_fieldAddr_t fo56_1, List.map]
              first | rw [mwp_fieldAddr_b (by simp (disch := first | omega | decide) only [go_sem, f0, f1]; rfl)] | skip
              exact hK _
            apply aops_step (by decide) rfl
            · intro K hK
              simp (disch := first | omega | decide) only [go_sem, f0, f1, act_load_t ti3, List.map]
              first | rw [mwp_load_bs (by simp (disch := first | omega | decide) only [go_sem, f0, f1]; rfl) (by simp)] | rw [mwp_load_b1 (by simp (disch := first | omega | decide) only [go_sem, f0, f1]; rfl) (by rfl)] | rw [mwp_aLoad_map (by simp (disch := first | omega | decide) only [go_sem, f0, f1]; rfl) (by first | omega | (simp; omega)) (fun _ => rfl)] | rw [mwp_aLoad_e1 (by simp (disch := first | omega | decide) only [go_sem, f0, f1]; rfl) (by simp) rfl] | skip
              exact hK _
            iterate 2 (apply aops_step (by decide) rfl; · (intro K hK; simp (disch := first | omega | decide) only [go_sem, f0, f1]; exact hK _))
            apply aops_merge' (by decide) (by first | exact want_of (d := 167) rfl (by simp (disch := first | omega | decide) only [go_sem, f0, f1, opn_cond]; rfl) | exact want_of_cond (d := 167) rfl (by simp (disch := first | omega | decide) only [go_sem, f0, f1, opn_cond]; rfl))
            · intro hc K hK
              have hc2 := hc
              simp only [beq_iff_eq, decide_eq_true_eq, decide_eq_false_iff_not, Bool.or_eq_true, Bool.and_eq_true, Bool.or_eq_false_iff, Bool.and_eq_false_iff] at hc2
              simp (disch := first | omega | decide) only [go_sem, f0, f1, opn_cond, hc, if_true]
              exact hK _
            apply aops_merge' (by decide) (by first | exact want_of (d := 167) rfl (by simp (disch := first | omega | decide) only [go_sem, f0, f1, opn_cond]; rfl) | exact want_of_cond (d := 167) rfl (by simp (disch := first | omega | decide) only [go_sem, f0, f1, opn_cond]; rfl))
            · intro hc K hK
              have hc2 := hc
              simp only [beq_iff_eq, decide_eq_true_eq, decide_eq_false_iff_not, Bool.or_eq_true, Bool.and_eq_true, Bool.or_eq_false_iff, Bool.and_eq_false_iff] at hc2
              simp (disch := first | omega | decide) only [go_sem, f0, f1, opn_cond, hc, if_true]
              exact hK _
            iterate 1 (apply aops_step (by decide) rfl; · (intro K hK; simp (disch := first | omega | decide) only [go_sem, f0, f1]; exact hK _))
            refine aops_nil ?_
            apply AW.cond
            · simp (disch := first | omega | decide) only [go_sem, f0, f1]; rfl
            case ht =>
              intro hb
              try simp only [Bool.or_eq_true, Bool.and_eq_true, Bool.or_eq_false_iff, Bool.and_eq_false_iff, decide_eq_true_eq, decide_eq_false_iff_not] at hb
              have hbt170 := hb
              refine AW.seq ?_
              refine AW.region (cfg := cfg) ?_
              iterate 3 (apply aops_step (by decide) rfl; · (intro K hK; simp (disch := first | omega | decide) only [go_sem, f0, f1]; exact hK _))
              apply aops_merge' (by decide) (by first | exact want_of (d := 173) rfl (by simp (disch := first | omega | decide) only [go_sem, f0, f1, opn_cond]; rfl) | exact want_of_cond (d := 173) rfl (by simp (disch := first | omega | decide) only [go_sem, f0, f1, opn_cond]; rfl))
              · intro hc K hK
                have hc2 := hc
                simp only [beq_iff_eq, decide_eq_true_eq, decide_eq_false_iff_not, Bool.or_eq_true, Bool.and_eq_true, Bool.or_eq_false_iff, Bool.and_eq_false_iff] at hc2
                simp (disch := first | omega | decide) only [go_sem, f0, f1, opn_cond, hc, if_true, act_load_t ti56]
                first | rw [mwp_load_bs (by simp (disch := first | omega | decide) only [go_sem, f0, f1, opn_cond, hc, if_true]; rfl) (by simp)] | rw [mwp_load_b1 (by simp (disch := first | omega | decide) only [go_sem, f0, f1, opn_cond, hc, if_true]; rfl) (by rfl)] | rw [mwp_aLoad_map (by simp (disch := first | omega | decide) only [go_sem, f0, f1, opn_cond, hc, if_true]; rfl) (by first | omega | (simp; omega)) (fun _ => rfl)] | rw [mwp_aLoad_e1 (by simp (disch := first | omega | decide) only [go_sem, f0, f1, opn_cond, hc, if_true]; rfl) (by simp) rfl] | skip
                exact hK _
              apply aops_merge' (by decide) (by first | exact want_of (d := 173) rfl (by simp (disch := first | omega | decide) only [go_sem, f0, f1, opn_cond]; rfl) | exact want_of_cond (d := 173) rfl (by simp (disch := first | omega | decide) only [go_sem, f0, f1, opn_cond]; rfl))
              · intro hc K hK
                have hc2 := hc
                simp only [beq_iff_eq, decide_eq_true_eq, decide_eq_false_iff_not, Bool.or_eq_true, Bool.and_eq_true, Bool.or_eq_false_iff, Bool.and_eq_false_iff] at hc2
                simp (disch := first | omega | decide) only [go_sem, f0, f1, opn_cond, hc, if_true, act_build_t ti56 pl56]
                simp [-List.map_take, -List.map_drop, fillL, okOne, cellishAV, Value.oneCell', cellsL, cellsOf, setAt, M.bind, Mwp]
                exact hK _
              apply aops_merge' (by decide) (by first | exact want_of (d := 173) rfl (by simp (disch := first | omega | decide) only [go_sem, f0, f1, opn_cond]; rfl) | exact want_of_cond (d := 173) rfl (by simp (disch := first | omega | decide) only [go_sem, f0, f1, opn_cond]; rfl))
              · intro hc K hK
                have hc2 := hc
                simp only [beq_iff_eq, decide_eq_true_eq, decide_eq_false_iff_not, Bool.or_eq_true, Bool.and_eq_true, Bool.or_eq_false_iff, Bool.and_eq_false_iff] at hc2
                simp (disch := first | omega | decide) only [go_sem, f0, f1, opn_cond, hc, if_true, bin_eql_s us56 fl56 eg56]
                exact hK _
              iterate 2 (apply aops_step (by decide) rfl; · (intro K hK; simp (disch := first | omega | decide) only [go_sem, f0, f1]; exact hK _))
              apply aops_merge' (by decide) (by first | exact want_of (d := 178) rfl (by simp (disch := first | omega | decide) only [go_sem, f0, f1, opn_cond]; rfl) | exact want_of_cond (d := 178) rfl (by simp (disch := first | omega | decide) only [go_sem, f0, f1, opn_cond]; rfl))
              · intro hc K hK
                have hc2 := hc
                simp only [beq_iff_eq, decide_eq_true_eq, decide_eq_false_iff_not, Bool.or_eq_true, Bool.and_eq_true, Bool.or_eq_false_iff, Bool.and_eq_false_iff] at hc2
                simp (disch := first | omega | decide) only [go_sem, f0, f1, opn_cond, hc, if_true, act_call, List.map]
                apply mwp_call_s rfl rfl rfl
                · intro Q hQ
                  simp (disch := first | omega | decide) only [go_sem, f0, f1, opn_cond, hc, if_true, peekL]
                  first | exact hQ | (rw [peek_own (by simp (disch := first | omega | decide) only [go_sem, f0, f1, peekL]; rfl)]; exact hQ) | (rw [peek_own (by simp (disch := first | omega | decide) only [go_sem, f0, f1, peekL]; rfl)]; simp (disch := first | omega | decide) only [go_sem, f0, f1, peekL]; rw [peek_own (by simp (disch := first | omega | decide) only [go_sem, f0, f1, peekL]; rfl)]; exact hQ) | (rw [peek_own (by simp (disch := first | omega | decide) only [go_sem, f0, f1, peekL]; rfl)]; simp (disch := first | omega | decide) only [go_sem, f0, f1, peekL]; exact hQ)
                · exact good_awake
                · simp [-List.map_take, -List.map_drop, noPtrL, noPtr, noPtrL_bsl, noPtrL_map, sub]
                · rfl
                · exact hK _
              iterate 2 (apply aops_step (by decide) rfl; · (intro K hK; simp (disch := first | omega | decide) only [go_sem, f0, f1]; exact hK _))
              refine aops_nil ?_
              refine AW.ret ?_
              refine ⟨.inr rfl, ?_⟩
              refine leaves_tmp1 4 rfl ?_ (by first | rfl | exact hG)
              simp (disch := first | omega | decide) only [go_sem, f0, f1]
              clear hr hv hG f0 f1
              all_goals first | done | (cases hm : mayS x u <;> first | grind [aN, aU, aE, aBad, tV, tN, tU, tE, wV, wE, gN, gU, gE, gBad, rW] | trace_state)
            case hf =>
              intro hb
              try simp only [Bool.or_eq_true, Bool.and_eq_true, Bool.or_eq_false_iff, Bool.and_eq_false_iff, decide_eq_true_eq, decide_eq_false_iff_not] at hb
              have hbt170 := hb
              refine AW.skip ?_
              refine AW.seq ?_
              refine AW.region (cfg := cfg) ?_
              iterate 3 (apply aops_step (by decide) rfl; · (intro K hK; simp (disch := first | omega | decide) only [go_sem, f0, f1]; exact hK _))
              apply aops_merge' (by decide) (by first | exact want_of (d := 183) rfl (by simp (disch := first | omega | decide) only [go_sem, f0, f1, opn_cond]; rfl) | exact want_of_cond (d := 183) rfl (by simp (disch := first | omega | decide) only [go_sem, f0, f1, opn_cond]; rfl))
              · intro hc K hK
                have hc2 := hc
                simp only [beq_iff_eq, decide_eq_true_eq, decide_eq_false_iff_not, Bool.or_eq_true, Bool.and_eq_true, Bool.or_eq_false_iff, Bool.and_eq_false_iff] at hc2
                simp (disch := first | omega | decide) only [go_sem, f0, f1, opn_cond, hc, if_true, act_load_t ti56]
                first | rw [mwp_load_bs (by simp (disch := first | omega | decide) only [go_sem, f0, f1, opn_cond, hc, if_true]; rfl) (by simp)] | rw [mwp_load_b1 (by simp (disch := first | omega | decide) only [go_sem, f0, f1, opn_cond, hc, if_true]; rfl) (by rfl)] | rw [mwp_aLoad_map (by simp (disch := first | omega | decide) only [go_sem, f0, f1, opn_cond, hc, if_true]; rfl) (by first | omega | (simp; omega)) (fun _ => rfl)] | rw [mwp_aLoad_e1 (by simp (disch := first | omega | decide) only [go_sem, f0, f1, opn_cond, hc, if_true]; rfl) (by simp) rfl] | skip
                exact hK _
              apply aops_merge' (by decide) (by first | exact want_of (d := 183) rfl (by simp (disch := first | omega | decide) only [go_sem, f0, f1, opn_cond]; rfl) | exact want_of_cond (d := 183) rfl (by simp (disch := first | omega | decide) only [go_sem, f0, f1, opn_cond]; rfl))
              · intro hc K hK
                have hc2 := hc
                simp only [beq_iff_eq, decide_eq_true_eq, decide_eq_false_iff_not, Bool.or_eq_true, Bool.and_eq_true, Bool.or_eq_false_iff, Bool.and_eq_false_iff] at hc2
                simp (disch := first | omega | decide) only [go_sem, f0, f1, opn_cond, hc, if_true, act_fieldAddr_t fo56_0]
                first | rw [mwp_fieldAddr_b (by simp (disch := first | omega | decide) only [go_sem, f0, f1, opn_cond, hc, if_true]; rfl)] | skip
                exact hK _
              apply aops_merge' (by decide) (by first | exact want_of (d := 183) rfl (by simp (disch := first | omega | decide) only [go_sem, f0, f1, opn_cond]; rfl) | exact want_of_cond (d := 183) rfl (by simp (disch := first | omega | decide) only [go_sem, f0, f1, opn_cond]; rfl))
              · intro hc K hK
                have hc2 := hc
                simp only [beq_iff_eq, decide_eq_true_eq, decide_eq_false_iff_not, Bool.or_eq_true, Bool.and_eq_true, Bool.or_eq_false_iff, Bool.and_eq_false_iff] at hc2
                simp (disch := first | omega | decide) only [go_sem, f0, f1, opn_cond, hc, if_true, act_load_t ti3]
                first | rw [mwp_load_bs (by simp (disch := first | omega | decide) only [go_sem, f0, f1, opn_cond, hc, if_true]; rfl) (by simp)] | rw [mwp_load_b1 (by simp (disch := first | omega | decide) only [go_sem, f0, f1, opn_cond, hc, if_true]; rfl) (by rfl)] | rw [mwp_aLoad_map (by simp (disch := first | omega | decide) only [go_sem, f0, f1, opn_cond, hc, if_true]; rfl) (by first | omega | (simp; omega)) (fun _ => rfl)] | rw [mwp_aLoad_e1 (by simp (disch := first | omega | decide) only [go_sem, f0, f1, opn_cond, hc, if_true]; rfl) (by simp) rfl] | skip
                exact hK _
              apply aops_merge' (by decide) (by first | exact want_of (d := 183) rfl (by simp (disch := first | omega | decide) only [go_sem, f0, f1, opn_cond]; rfl) | exact want_of_cond (d := 183) rfl (by simp (disch := first | omega | decide) only [go_sem, f0, f1, opn_cond]; rfl))
              · intro hc K hK
                have hc2 := hc
                simp only [beq_iff_eq, decide_eq_true_eq, decide_eq_false_iff_not, Bool.or_eq_true, Bool.and_eq_true, Bool.or_eq_false_iff, Bool.and_eq_false_iff] at hc2
                simp (disch := first | omega | decide) only [go_sem, f0, f1, opn_cond, hc, if_true]
                exact hK _
              apply aops_merge' (by decide) (by first | exact want_of (d := 183) rfl (by simp (disch := first | omega | decide) only [go_sem, f0, f1, opn_cond]; rfl) | exact want_of_cond (d := 183) rfl (by simp (disch := first | omega | decide) only [go_sem, f0, f1, opn_cond]; rfl))
              · intro hc K hK
                have hc2 := hc
                simp only [beq_iff_eq, decide_eq_true_eq, decide_eq_false_iff_not, Bool.or_eq_true, Bool.and_eq_true, Bool.or_eq_false_iff, Bool.and_eq_false_iff] at hc2
                simp (disch := first | omega | decide) only [go_sem, f0, f1, opn_cond, hc, if_true, act_build_t ti56 pl56]
                simp [-List.map_take, -List.map_drop, fillL, okOne, cellishAV, Value.oneCell', cellsL, cellsOf, setAt, M.bind, Mwp]
                exact hK _
              apply aops_merge' (by decide) (by first | exact want_of (d := 183) rfl (by simp (disch := first | omega | decide) only [go_sem, f0, f1, opn_cond]; rfl) | exact want_of_cond (d := 183) rfl (by simp (disch := first | omega | decide) only [go_sem, f0, f1, opn_cond]; rfl))
              · intro hc K hK
                have hc2 := hc
                simp only [beq_iff_eq, decide_eq_true_eq, decide_eq_false_iff_not, Bool.or_eq_true, Bool.and_eq_true, Bool.or_eq_false_iff, Bool.and_eq_false_iff] at hc2
                simp (disch := first | omega | decide) only [go_sem, f0, f1, opn_cond, hc, if_true, bin_eql_s us56 fl56 eg56]
                exact hK _
              iterate 2 (apply aops_step (by decide) rfl; · (intro K hK; simp (disch := first | omega | decide) only [go_sem, f0, f1]; exact hK _))
              apply aops_merge' (by decide) (by first | exact want_of (d := 191) rfl (by simp (disch := first | omega | decide) only [go_sem, f0, f1, opn_cond]; rfl) | exact want_of_cond (d := 191) rfl (by simp (disch := first | omega | decide) only [go_sem, f0, f1, opn_cond]; rfl))
              · intro hc K hK
                have hc2 := hc
                simp only [beq_iff_eq, decide_eq_true_eq, decide_eq_false_iff_not, Bool.or_eq_true, Bool.and_eq_true, Bool.or_eq_false_iff, Bool.and_eq_false_iff] at hc2
                simp (disch := first | omega | decide) only [go_sem, f0, f1, opn_cond, hc, if_true, act_call, List.map]
                apply mwp_call_s rfl rfl rfl
                · intro Q hQ
                  simp (disch := first | omega | decide) only [go_sem, f0, f1, opn_cond, hc, if_true, peekL]
                  first | exact hQ | (rw [peek_own (by simp (disch := first | omega | decide) only [go_sem, f0, f1, peekL]; rfl)]; exact hQ) | (rw [peek_own (by simp (disch := first | omega | decide) only [go_sem, f0, f1, peekL]; rfl)]; simp (disch := first | omega | decide) only [go_sem, f0, f1, peekL]; rw [peek_own (by simp (disch := first | omega | decide) only [go_sem, f0, f1, peekL]; rfl)]; exact hQ) | (rw [peek_own (by simp (disch := first | omega | decide) only [go_sem, f0, f1, peekL]; rfl)]; simp (disch := first | omega | decide) only [go_sem, f0, f1, peekL]; exact hQ)
                · exact good_awake
                · simp [-List.map_take, -List.map_drop, noPtrL, noPtr, noPtrL_bsl, noPtrL_map, sub]
                · rfl
                · exact hK _
              iterate 2 (apply aops_step (by decide) rfl; · (intro K hK; simp (disch := first | omega | decide) only [go_sem, f0, f1]; exact hK _))
              refine aops_nil ?_
              refine AW.ret ?_
              refine ⟨.inr rfl, ?_⟩
              refine leaves_tmp1 4 rfl ?_ (by first | rfl | exact hG)
              simp (disch := first | omega | decide) only [go_sem, f0, f1]
              clear hr hv hG f0 f1
              all_goals first | done | (cases hm : mayS x u <;> first | grind [aN, aU, aE, aBad, tV, tN, tU, tE, wV, wE, gN, gU, gE, gBad, rW] | trace_state)
  case hf =>
    intro hb
    try simp only [Bool.or_eq_true, Bool.and_eq_true, Bool.or_eq_false_iff, Bool.and_eq_false_iff, decide_eq_true_eq, decide_eq_false_iff_not] at hb
    have hbt42 := hb
    refine AW.seq ?_
    refine AW.region (cfg := cfg) ?_
    iterate 3 (apply aops_step (by decide) rfl; · (intro K hK; simp (disch := first | omega | decide) only [go_sem, f0, f1]; exact hK _))
    apply aops_merge' (by decide) (by first | exact want_of (d := 52) rfl (by simp (disch := first | omega | decide) only [go_sem, f0, f1, opn_cond]; rfl) | exact want_of_cond (d := 52) rfl (by simp (disch := first | omega | decide) only [go_sem, f0, f1, opn_cond]; rfl))
    · intro hc K hK
      have hc2 := hc
      simp only [beq_iff_eq, decide_eq_true_eq, decide_eq_false_iff_not, Bool.or_eq_true, Bool.and_eq_true, Bool.or_eq_false_iff, Bool.and_eq_false_iff] at hc2
      simp (disch := first | omega | decide) only [go_sem, f0, f1, opn_cond, hc, if_true, act_fieldAddr_t fo56_1]
      first | rw [mwp_fieldAddr_b (by simp (disch := first | omega | decide) only [go_sem, f0, f1, opn_cond, hc, if_true]; rfl)] | skip
      exact hK _
    apply aops_merge' (by decide) (by first | exact want_of (d := 52) rfl (by simp (disch := first | omega | decide) only [go_sem, f0, f1, opn_cond]; rfl) | exact want_of_cond (d := 52) rfl (by simp (disch := first | omega | decide) only [go_sem, f0, f1, opn_cond]; rfl))
    · intro hc K hK
      have hc2 := hc
      simp only [beq_iff_eq, decide_eq_true_eq, decide_eq_false_iff_not, Bool.or_eq_true, Bool.and_eq_true, Bool.or_eq_false_iff, Bool.and_eq_false_iff] at hc2
      simp (disch := first | omega | decide) only [go_sem, f0, f1, opn_cond, hc, if_true, act_load_t ti3]
      first | rw [mwp_load_bs (by simp (disch := first | omega | decide) only [go_sem, f0, f1, opn_cond, hc, if_true]; rfl) (by simp)] | rw [mwp_load_b1 (by simp (disch := first | omega | decide) only [go_sem, f0, f1, opn_cond, hc, if_true]; rfl) (by rfl)] | rw [mwp_aLoad_map (by simp (disch := first | omega | decide) only [go_sem, f0, f1, opn_cond, hc, if_true]; rfl) (by first | omega | (simp; omega)) (fun _ => rfl)] | rw [mwp_aLoad_e1 (by simp (disch := first | omega | decide) only [go_sem, f0, f1, opn_cond, hc, if_true]; rfl) (by simp) rfl] | skip
      exact hK _
    apply aops_merge' (by decide) (by first | exact want_of (d := 52) rfl (by simp (disch := first | omega | decide) only [go_sem, f0, f1, opn_cond]; rfl) | exact want_of_cond (d := 52) rfl (by simp (disch := first | omega | decide) only [go_sem, f0, f1, opn_cond]; rfl))
    · intro hc K hK
      have hc2 := hc
      simp only [beq_iff_eq, decide_eq_true_eq, decide_eq_false_iff_not, Bool.or_eq_true, Bool.and_eq_true, Bool.or_eq_false_iff, Bool.and_eq_false_iff] at hc2
      simp (disch := first | omega | decide) only [go_sem, f0, f1, opn_cond, hc, if_true]
      exact hK _
    apply aops_merge' (by decide) (by first | exact want_of (d := 52) rfl (by simp (disch := first | omega | decide) only [go_sem, f0, f1, opn_cond]; rfl) | exact want_of_cond (d := 52) rfl (by simp (disch := first | omega | decide) only [go_sem, f0, f1, opn_cond]; rfl))
    · intro hc K hK
      have hc2 := hc
      simp only [beq_iff_eq, decide_eq_true_eq, decide_eq_false_iff_not, Bool.or_eq_true, Bool.and_eq_true, Bool.or_eq_false_iff, Bool.and_eq_false_iff] at hc2
      simp (disch := first | omega | decide) only [go_sem, f0, f1, opn_cond, hc, if_true]
      exact hK _
    iterate 2 (apply aops_step (by decide) rfl; · (intro K hK; simp (disch := first | omega | decide) only [go_sem, f0, f1]; exact hK _))
    apply aops_merge' (by decide) (by first | exact want_of (d := 58) rfl (by simp (disch := first | omega | decide) only [go_sem, f0, f1, opn_cond]; rfl) | exact want_of_cond (d := 58) rfl (by simp (disch := first | omega | decide) only [go_sem, f0, f1, opn_cond]; rfl))
    · intro hc K hK
      have hc2 := hc
      simp only [beq_iff_eq, decide_eq_true_eq, decide_eq_false_iff_not, Bool.or_eq_true, Bool.and_eq_true, Bool.or_eq_false_iff, Bool.and_eq_false_iff] at hc2
      simp (disch := first | omega | decide) only [go_sem, f0, f1, opn_cond, hc, if_true, act_fieldAddr_t fo56_0]
      first | rw [mwp_fieldAddr_b (by simp (disch := first | omega | decide) only [go_sem, f0, f1, opn_cond, hc, if_true]; rfl)] | skip
      exact hK _
    apply aops_merge' (by decide) (by first | exact want_of (d := 58) rfl (by simp (disch := first | omega | decide) only [go_sem, f0, f1, opn_cond]; rfl) | exact want_of_cond (d := 58) rfl (by simp (disch := first | omega | decide) only [go_sem, f0, f1, opn_cond]; rfl))
    · intro hc K hK
      have hc2 := hc
      simp only [beq_iff_eq, decide_eq_true_eq, decide_eq_false_iff_not, Bool.or_eq_true, Bool.and_eq_true, Bool.or_eq_false_iff, Bool.and_eq_false_iff] at hc2
      simp (disch := first | omega | decide) only [go_sem, f0, f1, opn_cond, hc, if_true, act_load_t ti3]
      first | rw [mwp_load_bs (by simp (disch := first | omega | decide) only [go_sem, f0, f1, opn_cond, hc, if_true]; rfl) (by simp)] | rw [mwp_load_b1 (by simp (disch := first | omega | decide) only [go_sem, f0, f1, opn_cond, hc, if_true]; rfl) (by rfl)] | rw [mwp_aLoad_map (by simp (disch := first | omega | decide) only [go_sem, f0, f1, opn_cond, hc, if_true]; rfl) (by first | omega | (simp; omega)) (fun _ => rfl)] | rw [mwp_aLoad_e1 (by simp (disch := first | omega | decide) only [go_sem, f0, f1, opn_cond, hc, if_true]; rfl) (by simp) rfl] | skip
      exact hK _
    apply aops_merge' (by decide) (by first | exact want_of (d := 58) rfl (by simp (disch := first | omega | decide) only [go_sem, f0, f1, opn_cond]; rfl) | exact want_of_cond (d := 58) rfl (by simp (disch := first | omega | decide) only [go_sem, f0, f1, opn_cond]; rfl))
    · intro hc K hK
      have hc2 := hc
      simp only [beq_iff_eq, decide_eq_true_eq, decide_eq_false_iff_not, Bool.or_eq_true, Bool.and_eq_true, Bool.or_eq_false_iff, Bool.and_eq_false_iff] at hc2
      simp (disch := first | omega | decide) only [go_sem, f0, f1, opn_cond, hc, if_true]
      exact hK _
    apply aops_merge' (by decide) (by first | exact want_of (d := 58) rfl (by simp (disch := first | omega | decide) only [go_sem, f0, f1, opn_cond]; rfl) | exact want_of_cond (d := 58) rfl (by simp (disch := first | omega | decide) only [go_sem, f0, f1, opn_cond]; rfl))
    · intro hc K hK
      have hc2 := hc
      simp only [beq_iff_eq, decide_eq_true_eq, decide_eq_false_iff_not, Bool.or_eq_true, Bool.and_eq_true, Bool.or_eq_false_iff, Bool.and_eq_false_iff] at hc2
      simp (disch := first | omega | decide) only [go_sem, f0, f1, opn_cond, hc, if_true]
      exact hK _
    apply aops_merge' (by decide) (by first | exact want_of (d := 58) rfl (by simp (disch := first | omega | decide) only [go_sem, f0, f1, opn_cond]; rfl) | exact want_of_cond (d := 58) rfl (by simp (disch := first | omega | decide) only [go_sem, f0, f1, opn_cond]; rfl))
    · intro hc K hK
      have hc2 := hc
      simp only [beq_iff_eq, decide_eq_true_eq, decide_eq_false_iff_not, Bool.or_eq_true, Bool.and_eq_true, Bool.or_eq_false_iff, Bool.and_eq_false_iff] at hc2
      simp (disch := first | omega | decide) only [go_sem, f0, f1, opn_cond, hc, if_true]
      exact hK _
    iterate 1 (apply aops_step (by decide) rfl; · (intro K hK; simp (disch := first | omega | decide) only [go_sem, f0, f1]; exact hK _))
    refine aops_nil ?_
    apply AW.cond
    · simp (disch := first | omega | decide) only [go_sem, f0, f1]; rfl
    case ht =>
      intro hb
      try simp only [Bool.or_eq_true, Bool.and_eq_true, Bool.or_eq_false_iff, Bool.and_eq_false_iff, decide_eq_true_eq, decide_eq_false_iff_not] at hb
      have hbt64 := hb
      refine AW.seq ?_
      refine AW.region (cfg := cfg) ?_
      iterate 1 (apply aops_step (by decide) rfl; · (intro K hK; simp (disch := first | omega | decide) only [go_sem, f0, f1]; exact hK _))
      refine aops_nil ?_
      refine AW.ret ?_
      refine ⟨.inr rfl, ?_⟩
      refine leaves_tmp1 4 rfl ?_ (by first | rfl | exact hG)
      simp (disch := first | omega | decide) only [go_sem, f0, f1]
      clear hr hv hG f0 f1
      all_goals first | done | (cases hm : mayS x u <;> first | grind [aN, aU, aE, aBad, tV, tN, tU, tE, wV, wE, gN, gU, gE, gBad, rW] | trace_state)
    case hf =>
      intro hb
      try simp only [Bool.or_eq_true, Bool.and_eq_true, Bool.or_eq_false_iff, Bool.and_eq_false_iff, decide_eq_true_eq, decide_eq_false_iff_not] at hb
      have hbt64 := hb
      refine AW.skip ?_
      refine AW.seq ?_
      refine AW.seq ?_
      refine AW.region (cfg := cfg) ?_
      apply aops_step (by decide) rfl
      · intro K hK
        simp (disch := first | omega | decide) only [go_sem, f0, f1, act_load_t ti56, List.map]
        first | rw [mwp_load_bs (by simp (disch := first | omega | decide) only [go_sem, f0, f1]; rfl) (by simp)] | rw [mwp_load_b1 (by simp (disch := first | omega | decide) only [go_sem, f0, f1]; rfl) (by rfl)] | rw [mwp_aLoad_map (by simp (disch := first | omega | decide) only [go_sem, f0, f1]; rfl) (by first | omega | (simp; omega)) (fun _ => rfl)] | rw [mwp_aLoad_e1 (by simp (disch := first | omega | decide) only [go_sem, f0, f1]; rfl) (by simp) rfl] | skip
        exact hK _
      apply aops_step (by decide) rfl
      · intro K hK
        simp (disch := first | omega | decide) only [go_sem, f0, f1, act_call, List.map]
        apply mwp_call_s rfl rfl rfl
        · intro Q hQ
          simp (disch := first | omega | decide) only [go_sem, f0, f1, peekL]
          first | exact hQ | (rw [peek_own (by simp (disch := first | omega | decide) only [go_sem, f0, f1, peekL]; rfl)]; exact hQ) | (rw [peek_own (by simp (disch := first | omega | decide) only [go_sem, f0, f1, peekL]; rfl)]; simp (disch := first | omega | decide) only [go_sem, f0, f1, peekL]; rw [peek_own (by simp (disch := first | omega | decide) only [go_sem, f0, f1, peekL]; rfl)]; exact hQ) | (rw [peek_own (by simp (disch := first | omega | decide) only [go_sem, f0, f1, peekL]; rfl)]; simp (disch := first | omega | decide) only [go_sem, f0, f1, peekL]; exact hQ)
        · exact good_refMay _ _ hx hu
        · simp [-List.map_take, -List.map_drop, noPtrL, noPtr, noPtrL_bsl, noPtrL_map, sub]
        · rfl
        · exact hK _
      iterate 1 (apply aops_step (by decide) rfl; · (intro K hK; simp (disch := first | omega | decide) only [go_sem, f0, f1]; exact hK _))
      refine aops_nil ?_
      apply AW.cond
      · simp (disch := first | omega | decide) only [go_sem, f0, f1]; rfl
      case ht =>
        intro hb
        try simp only [Bool.or_eq_true, Bool.and_eq_true, Bool.or_eq_false_iff, Bool.and_eq_false_iff, decide_eq_true_eq, decide_eq_false_iff_not] at hb
        have hbt67 := hb
        refine AW.seq ?_
        refine AW.region (cfg := cfg) ?_
        iterate 3 (apply aops_step (by decide) rfl; · (intro K hK; simp (disch := first | omega | decide) only [go_sem, f0, f1]; exact hK _))
        apply aops_merge' (by decide) (by first | exact want_of (d := 70) rfl (by simp (disch := first | omega | decide) only [go_sem, f0, f1, opn_cond]; rfl) | exact want_of_cond (d := 70) rfl (by simp (disch := first | omega | decide) only [go_sem, f0, f1, opn_cond]; rfl))
        · intro hc K hK
          have hc2 := hc
          simp only [beq_iff_eq, decide_eq_true_eq, decide_eq_false_iff_not, Bool.or_eq_true, Bool.and_eq_true, Bool.or_eq_false_iff, Bool.and_eq_false_iff] at hc2
          simp (disch := first | omega | decide) only [go_sem, f0, f1, opn_cond, hc, if_true]
          exact hK _
        apply aops_merge' (by decide) (by first | exact want_of (d := 70) rfl (by simp (disch := first | omega | decide) only [go_sem, f0, f1, opn_cond]; rfl) | exact want_of_cond (d := 70) rfl (by simp (disch := first | omega | decide) only [go_sem, f0, f1, opn_cond]; rfl))
        · intro hc K hK
          have hc2 := hc
          simp only [beq_iff_eq, decide_eq_true_eq, decide_eq_false_iff_not, Bool.or_eq_true, Bool.and_eq_true, Bool.or_eq_false_iff, Bool.and_eq_false_iff] at hc2
          simp (disch := first | omega | decide) only [go_sem, f0, f1, opn_cond, hc, if_true]
          exact hK _
        iterate 2 (apply aops_step (by decide) rfl; · (intro K hK; simp (disch := first | omega | decide) only [go_sem, f0, f1]; exact hK _))
        apply aops_merge' (by decide) (by first | exact want_of (d := 74) rfl (by simp (disch := first | omega | decide) only [go_sem, f0, f1, opn_cond]; rfl) | exact want_of_cond (d := 74) rfl (by simp (disch := first | omega | decide) only [go_sem, f0, f1, opn_cond]; rfl))
        · intro hc K hK
          have hc2 := hc
          simp only [beq_iff_eq, decide_eq_true_eq, decide_eq_false_iff_not, Bool.or_eq_true, Bool.and_eq_true, Bool.or_eq_false_iff, Bool.and_eq_false_iff] at hc2
          simp (disch := first | omega | decide) only [go_sem, f0, f1, opn_cond, hc, if_true]
          exact hK _
        apply aops_merge' (by decide) (by first | exact want_of (d := 74) rfl (by simp (disch := first | omega | decide) only [go_sem, f0, f1, opn_cond]; rfl) | exact want_of_cond (d := 74) rfl (by simp (disch := first | omega | decide) only [go_sem, f0, f1, opn_cond]; rfl))
        · intro hc K hK
          have hc2 := hc
          simp only [beq_iff_eq, decide_eq_true_eq, decide_eq_false_iff_not, Bool.or_eq_true, Bool.and_eq_true, Bool.or_eq_false_iff, Bool.and_eq_false_iff] at hc2
          simp (disch := first | omega | decide) only [go_sem, f0, f1, opn_cond, hc, if_true]
          exact hK _
        iterate 2 (apply aops_step (by decide) rfl; · (intro K hK; simp (disch := first | omega | decide) only [go_sem, f0, f1]; exact hK _))
        apply aops_merge' (by decide) (by first | exact want_of (d := 78) rfl (by simp (disch := first | omega | decide) only [go_sem, f0, f1, opn_cond]; rfl) | exact want_of_cond (d := 78) rfl (by simp (disch := first | omega | decide) only [go_sem, f0, f1, opn_cond]; rfl))
        · intro hc K hK
          have hc2 := hc
          simp only [beq_iff_eq, decide_eq_true_eq, decide_eq_false_iff_not, Bool.or_eq_true, Bool.and_eq_true, Bool.or_eq_false_iff, Bool.and_eq_false_iff] at hc2
          simp (disch := first | omega | decide) only [go_sem, f0, f1, opn_cond, hc, if_true]
          exact hK _
        apply aops_merge' (by decide) (by first | exact want_of (d := 78) rfl (by simp (disch := first | omega | decide) only [go_sem, f0, f1, opn_cond]; rfl) | exact want_of_cond (d := 78) rfl (by simp (disch := first | omega | decide) only [go_sem, f0, f1, opn_cond]; rfl))
        · intro hc K hK
          have hc2 := hc
          simp only [beq_iff_eq, decide_eq_true_eq, decide_eq_false_iff_not, Bool.or_eq_true, Bool.and_eq_true, Bool.or_eq_false_iff, Bool.and_eq_false_iff] at hc2
          simp (disch := first | omega | decide) only [go_sem, f0, f1, opn_cond, hc, if_true]
          exact hK _
        iterate 2 (apply aops_step (by decide) rfl; · (intro K hK; simp (disch := first | omega | decide) only [go_sem, f0, f1]; exact hK _))
        apply aops_merge' (by decide) (by first | exact want_of (d := 82) rfl (by simp (disch := first | omega | decide) only [go_sem, f0, f1, opn_cond]; rfl) | exact want_of_cond (d := 82) rfl (by simp (disch := first | omega | decide) only [go_sem, f0, f1, opn_cond]; rfl))
        · intro hc K hK
          have hc2 := hc
          simp only [beq_iff_eq, decide_eq_true_eq, decide_eq_false_iff_not, Bool.or_eq_true, Bool.and_eq_true, Bool.or_eq_false_iff, Bool.and_eq_false_iff] at hc2
          simp (disch := first | omega | decide) only [go_sem, f0, f1, opn_cond, hc, if_true]
          exact hK _
        apply aops_merge' (by decide) (by first | exact want_of (d := 82) rfl (by simp (disch := first | omega | decide) only [go_sem, f0, f1, opn_cond]; rfl) | exact want_of_cond (d := 82) rfl (by simp (disch := first | omega | decide) only [go_sem, f0, f1, opn_cond]; rfl))
        · intro hc K hK
          have hc2 := hc
          simp only [beq_iff_eq, decide_eq_true_eq, decide_eq_false_iff_not, Bool.or_eq_true, Bool.and_eq_true, Bool.or_eq_false_iff, Bool.and_eq_false_iff] at hc2
          simp (disch := first | omega | decide) only [go_sem, f0, f1, opn_cond, hc, if_true]
          exact hK _
        iterate 2 (apply aops_step (by decide) rfl; · (intro K hK; simp (disch := first | omega | decide) only [go_sem, f0, f1]; exact hK _))
        apply aops_merge' (by decide) (by first | exact want_of (d := 86) rfl (by simp (disch := first | omega | decide) only [go_sem, f0, f1, opn_cond]; rfl) | exact want_of_cond (d := 86) rfl (by simp (disch := first | omega | decide) only [go_sem, f0, f1, opn_cond]; rfl))
        · intro hc K hK
          have hc2 := hc
          simp only [beq_iff_eq, decide_eq_true_eq, decide_eq_false_iff_not, Bool.or_eq_true, Bool.and_eq_true, Bool.or_eq_false_iff, Bool.and_eq_false_iff] at hc2
          simp (disch := first | omega | decide) only [go_sem, f0, f1, opn_cond, hc, if_true, act_load_t ti56]
          first | rw [mwp_load_bs (by simp (disch := first | omega | decide) only [go_sem, f0, f1, opn_cond, hc, if_true]; rfl) (by simp)] | rw [mwp_load_b1 (by simp (disch := first | omega | decide) only [go_sem, f0, f1, opn_cond, hc, if_true]; rfl) (by rfl)] | rw [mwp_aLoad_map (by simp (disch := first | omega | decide) only [go_sem, f0, f1, opn_cond, hc, if_true]; rfl) (by first | omega | (simp; omega)) (fun _ => rfl)] | rw [mwp_aLoad_e1 (by simp (disch := first | omega | decide) only [go_sem, f0, f1, opn_cond, hc, if_true]; rfl) (by simp) rfl] | skip
          exact hK _
        apply aops_merge' (by decide) (by first | exact want_of (d := 86) rfl (by simp (disch := first | omega | decide) only [go_sem, f0, f1, opn_cond]; rfl) | exact want_of_cond (d := 86) rfl (by simp (disch := first | omega | decide) only [go_sem, f0, f1, opn_cond]; rfl))
        · intro hc K hK
          have hc2 := hc
          simp only [beq_iff_eq, decide_eq_true_eq, decide_eq_false_iff_not, Bool.or_eq_true, Bool.and_eq_true, Bool.or_eq_false_iff, Bool.and_eq_false_iff] at hc2
          simp (disch := first | omega | decide) only [go_sem, f0, f1, opn_cond, hc, if_true, act_build_t ti56 pl56]
          simp [-List.map_take, -List.map_drop, fillL, okOne, cellishAV, Value.oneCell', cellsL, cellsOf, setAt, M.bind, Mwp]
          exact hK _
        apply aops_merge' (by decide) (by first | exact want_of (d := 86) rfl (by simp (disch := first | omega | decide) only [go_sem, f0, f1, opn_cond]; rfl) | exact want_of_cond (d := 86) rfl (by simp (disch := first | omega | decide) only [go_sem, f0, f1, opn_cond]; rfl))
        · intro hc K hK
          have hc2 := hc
          simp only [beq_iff_eq, decide_eq_true_eq, decide_eq_false_iff_not, Bool.or_eq_true, Bool.and_eq_true, Bool.or_eq_false_iff, Bool.and_eq_false_iff] at hc2
          simp (disch := first | omega | decide) only [go_sem, f0, f1, opn_cond, hc, if_true, bin_eql_s us56 fl56 eg56]
          exact hK _
        iterate 2 (apply aops_step (by decide) rfl; · (intro K hK; simp (disch := first | omega | decide) only [go_sem, f0, f1]; exact hK _))
        apply aops_merge' (by decide) (by first | exact want_of (d := 91) rfl (by simp (disch := first | omega | decide) only [go_sem, f0, f1, opn_cond]; rfl) | exact want_of_cond (d := 91) rfl (by simp (disch := first | omega | decide) only [go_sem, f0, f1, opn_cond]; rfl))
        · intro hc K hK
          have hc2 := hc
          simp only [beq_iff_eq, decide_eq_true_eq, decide_eq_false_iff_not, Bool.or_eq_true, Bool.and_eq_true, Bool.or_eq_false_iff, Bool.and_eq_false_iff] at hc2
          simp (disch := first | omega | decide) only [go_sem, f0, f1, opn_cond, hc, if_true, act_load_t ti56]
          first | rw [mwp_load_bs (by simp (disch := first | omega | decide) only [go_sem, f0, f1, opn_cond, hc, if_true]; rfl) (by simp)] | rw [mwp_load_b1 (by simp (disch := first | omega | decide) only [go_sem, f0, f1, opn_cond, hc, if_true]; rfl) (by rfl)] | rw [mwp_aLoad_map (by simp (disch := first | omega | decide) only [go_sem, f0, f1, opn_cond, hc, if_true]; rfl) (by first | omega | (simp; omega)) (fun _ => rfl)] | rw [mwp_aLoad_e1 (by simp (disch := first | omega | decide) only [go_sem, f0, f1, opn_cond, hc, if_true]; rfl) (by simp) rfl] | skip
          exact hK _
        apply aops_merge' (by decide) (by first | exact want_of (d := 91) rfl (by simp (disch := first | omega | decide) only [go_sem, f0, f1, opn_cond]; rfl) | exact want_of_cond (d := 91) rfl (by simp (disch := first | omega | decide) only [go_sem, f0, f1, opn_cond]; rfl))
        · intro hc K hK
          have hc2 := hc
          simp only [beq_iff_eq, decide_eq_true_eq, decide_eq_false_iff_not, Bool.or_eq_true, Bool.and_eq_true, Bool.or_eq_false_iff, Bool.and_eq_false_iff] at hc2
          simp (disch := first | omega | decide) only [go_sem, f0, f1, opn_cond, hc, if_true, act_build_t ti56 pl56]
          simp [-List.map_take, -List.map_drop, fillL, okOne, cellishAV, Value.oneCell', cellsL, cellsOf, setAt, M.bind, Mwp]
          exact hK _
        apply aops_merge' (by decide) (by first | exact want_of (d := 91) rfl (by simp (disch := first | omega | decide) only [go_sem, f0, f1, opn_cond]; rfl) | exact want_of_cond (d := 91) rfl (by simp (disch := first | omega | decide) only [go_sem, f0, f1, opn_cond]; rfl))
        · intro hc K hK
          have hc2 := hc
          simp only [beq_iff_eq, decide_eq_true_eq, decide_eq_false_iff_not, Bool.or_eq_true, Bool.and_eq_true, Bool.or_eq_false_iff, Bool.and_eq_false_iff] at hc2
          simp (disch := first | omega | decide) only [go_sem, f0, f1, opn_cond, hc, if_true, bin_eql_s us56 fl56 eg56]
          exact hK _
        iterate 2 (apply aops_step (by decide) rfl; · (intro K hK; simp (disch := first | omega | decide) only [go_sem, f0, f1]; exact hK _))
        apply aops_merge' (by decide) (by first | exact want_of (d := 96) rfl (by simp (disch := first | omega | decide) only [go_sem, f0, f1, opn_cond]; rfl) | exact want_of_cond (d := 96) rfl (by simp (disch := first | omega | decide) only [go_sem, f0, f1, opn_cond]; rfl))
        · intro hc K hK
          have hc2 := hc
          simp only [beq_iff_eq, decide_eq_true_eq, decide_eq_false_iff_not, Bool.or_eq_true, Bool.and_eq_true, Bool.or_eq_false_iff, Bool.and_eq_false_iff] at hc2
          simp (disch := first | omega | decide) only [go_sem, f0, f1, opn_cond, hc, if_true, act_call, List.map]
          apply mwp_call_s rfl rfl rfl
          · intro Q hQ
            simp (disch := first | omega | decide) only [go_sem, f0, f1, opn_cond, hc, if_true, peekL]
            first | exact hQ | (rw [peek_own (by simp (disch := first | omega | decide) only [go_sem, f0, f1, peekL]; rfl)]; exact hQ) | (rw [peek_own (by simp (disch := first | omega | decide) only [go_sem, f0, f1, peekL]; rfl)]; simp (disch := first | omega | decide) only [go_sem, f0, f1, peekL]; rw [peek_own (by simp (disch := first | omega | decide) only [go_sem, f0, f1, peekL]; rfl)]; exact hQ) | (rw [peek_own (by simp (disch := first | omega | decide) only [go_sem, f0, f1, peekL]; rfl)]; simp (disch := first | omega | decide) only [go_sem, f0, f1, peekL]; exact hQ)
          · exact good_awake
          · simp [-List.map_take, -List.map_drop, noPtrL, noPtr, noPtrL_bsl, noPtrL_map, sub]
          · rfl
          · exact hK _
        iterate 2 (apply aops_step (by decide) rfl; · (intro K hK; simp (disch := first | omega | decide) only [go_sem, f0, f1]; exact hK _))
        refine aops_nil ?_
        refine AW.ret ?_
        refine ⟨.inr rfl, ?_⟩
        refine leaves_tmp1 4 rfl ?_ (by first | rfl | exact hG)
        simp (disch := first | omega | decide) only [go_sem, f0, f1]
        clear hr hv hG f0 f1
        all_goals first | done | (cases hm : mayS x u <;> first | grind [aN, aU, aE, aBad, tV, tN, tU, tE, wV, wE, gN, gU, gE, gBad, rW] | trace_state)
      case hf =>
        intro hb
        try simp only [Bool.or_eq_true, Bool.and_eq_true, Bool.or_eq_false_iff, Bool.and_eq_false_iff, decide_eq_true_eq, decide_eq_false_iff_not] at hb
        have hbt67 := hb
        refine AW.skip ?_
        refine AW.seq ?_
        refine AW.seq ?_
        have hmr := mayS_range (x := x) (u := u) (by simpa using hbt67)
        refine AW.region (cfg := cfg) ?_
        apply aops_step (by decide) rfl
        · intro K hK
          simp (disch := first | omega | decide) only [go_sem, f0, f1, act_fieldAddr_t fo56_0, List.map]
          first | rw [mwp_fieldAddr_b (by simp (disch := first | omega | decide) only [go_sem, f0, f1]; rfl)] | skip
          exact hK _
        apply aops_step (by decide) rfl
        · intro K hK
          simp (disch := first | omega | decide) only [go_sem, f0, f1, act_load_t ti3, List.map]
          first | rw [mwp_load_bs (by simp (disch := first | omega | decide) only [go_sem, f0, f1]; rfl) (by simp)] | rw [mwp_load_b1 (by simp (disch := first | omega | decide) only [go_sem, f0, f1]; rfl) (by rfl)] | rw [mwp_aLoad_map (by simp (disch := first | omega | decide) only [go_sem, f0, f1]; rfl) (by first | omega | (simp; omega)) (fun _ => rfl)] | rw [mwp_aLoad_e1 (by simp (disch := first | omega | decide) only [go_sem, f0, f1]; rfl) (by simp) rfl] | skip
          exact hK _
        apply aops_step (by decide) rfl
        · intro K hK
          simp (disch := first | omega | decide) only [go_sem, f0, f1, act_fieldAddr_t fo56_1, List.map]
          first | rw [mwp_fieldAddr_b (by simp (disch := first | omega | decide) only [go_sem, f0, f1]; rfl)] | skip
          exact hK _
        apply aops_step (by decide) rfl
        · intro K hK
          simp (disch := first | omega | decide) only [go_sem, f0, f1, act_load_t ti3, List.map]
          first | rw [mwp_load_bs (by simp (disch := first | omega | decide) only [go_sem, f0, f1]; rfl) (by simp)] | rw [mwp_load_b1 (by simp (disch := first | omega | decide) only [go_sem, f0, f1]; rfl) (by rfl)] | rw [mwp_aLoad_map (by simp (disch := first | omega | decide) only [go_sem, f0, f1]; rfl) (by first | omega | (simp; omega)) (fun _ => rfl)] | rw [mwp_aLoad_e1 (by simp (disch := first | omega | decide) only [go_sem, f0, f1]; rfl) (by simp) rfl] | skip
          exact hK _
        iterate 2 (apply aops_step (by decide) rfl; · (intro K hK; simp (disch := first | omega | decide) only [go_sem, f0, f1]; exact hK _))
        apply aops_merge' (by decide) (by first | exact want_of (d := 104) rfl (by simp (disch := first | omega | decide) only [go_sem, f0, f1, opn_cond]; rfl) | exact want_of_cond (d := 104) rfl (by simp (disch := first | omega | decide) only [go_sem, f0, f1, opn_cond]; rfl))
        · intro hc K hK
          have hc2 := hc
          simp only [beq_iff_eq, decide_eq_true_eq, decide_eq_false_iff_not, Bool.or_eq_true, Bool.and_eq_true, Bool.or_eq_false_iff, Bool.and_eq_false_iff] at hc2
          simp (disch := first | omega | decide) only [go_sem, f0, f1, opn_cond, hc, if_true]
          exact hK _
        apply aops_merge' (by decide) (by first | exact want_of (d := 104) rfl (by simp (disch := first | omega | decide) only [go_sem, f0, f1, opn_cond]; rfl) | exact want_of_cond (d := 104) rfl (by simp (disch := first | omega | decide) only [go_sem, f0, f1, opn_cond]; rfl))
        · intro hc K hK
          have hc2 := hc
          simp only [beq_iff_eq, decide_eq_true_eq, decide_eq_false_iff_not, Bool.or_eq_true, Bool.and_eq_true, Bool.or_eq_false_iff, Bool.and_eq_false_iff] at hc2
          simp (disch := first | omega | decide) only [go_sem, f0, f1, opn_cond, hc, if_true]
          exact hK _
        apply aops_merge' (by decide) (by first | exact want_of (d := 104) rfl (by simp (disch := first | omega | decide) only [go_sem, f0, f1, opn_cond]; rfl) | exact want_of_cond (d := 104) rfl (by simp (disch := first | omega | decide) only [go_sem, f0, f1, opn_cond]; rfl))
        · intro hc K hK
          have hc2 := hc
          simp only [beq_iff_eq, decide_eq_true_eq, decide_eq_false_iff_not, Bool.or_eq_true, Bool.and_eq_true, Bool.or_eq_false_iff, Bool.and_eq_false_iff] at hc2
          simp (disch := first | omega | decide) only [go_sem, f0, f1, opn_cond, hc, if_true]
          exact hK _
        apply aops_merge' (by decide) (by first | exact want_of (d := 107) rfl (by simp (disch := first | omega | decide) only [go_sem, f0, f1, opn_cond]; rfl) | exact want_of_cond (d := 107) rfl (by simp (disch := first | omega | decide) only [go_sem, f0, f1, opn_cond]; rfl))
        · intro hc K hK
          have hc2 := hc
          simp only [beq_iff_eq, decide_eq_true_eq, decide_eq_false_iff_not, Bool.or_eq_true, Bool.and_eq_true, Bool.or_eq_false_iff, Bool.and_eq_false_iff] at hc2
          simp (disch := first | omega | decide) only [go_sem, f0, f1, opn_cond, hc, if_true]
          exact hK _
        apply aops_merge' (by decide) (by first | exact want_of (d := 107) rfl (by simp (disch := first | omega | decide) only [go_sem, f0, f1, opn_cond]; rfl) | exact want_of_cond (d := 107) rfl (by simp (disch := first | omega | decide) only [go_sem, f0, f1, opn_cond]; rfl))
        · intro hc K hK
          have hc2 := hc
          simp only [beq_iff_eq, decide_eq_true_eq, decide_eq_false_iff_not, Bool.or_eq_true, Bool.and_eq_true, Bool.or_eq_false_iff, Bool.and_eq_false_iff] at hc2
          simp (disch := first | omega | decide) only [go_sem, f0, f1, opn_cond, hc, if_true]
          exact hK _
        apply aops_merge' (by decide) (by first | exact want_of (d := 104) rfl (by simp (disch := first | omega | decide) only [go_sem, f0, f1, opn_cond]; rfl) | exact want_of_cond (d := 104) rfl (by simp (disch := first | omega | decide) only [go_sem, f0, f1, opn_cond]; rfl))
        · intro hc K hK
          have hc2 := hc
          simp only [beq_iff_eq, decide_eq_true_eq, decide_eq_false_iff_not, Bool.or_eq_true, Bool.and_eq_true, Bool.or_eq_false_iff, Bool.and_eq_false_iff] at hc2
          simp (disch := first | omega | decide) only [go_sem, f0, f1, opn_cond, hc, if_true]
          exact hK _
        apply aops_merge' (by decide) (by first | exact want_of (d := 104) rfl (by simp (disch := first | omega | decide) only [go_sem, f0, f1, opn_cond]; rfl) | exact want_of_cond (d := 104) rfl (by simp (disch := first | omega | decide) only [go_sem, f0, f1, opn_cond]; rfl))
        · intro hc K hK
          have hc2 := hc
          simp only [beq_iff_eq, decide_eq_true_eq, decide_eq_false_iff_not, Bool.or_eq_true, Bool.and_eq_true, Bool.or_eq_false_iff, Bool.and_eq_false_iff] at hc2
          simp (disch := first | omega | decide) only [go_sem, f0, f1, opn_cond, hc, if_true]
          exact hK _
        apply aops_merge' (by decide) (by first | exact want_of (d := 111) rfl (by simp (disch := first | omega | decide) only [go_sem, f0, f1, opn_cond]; rfl) | exact want_of_cond (d := 111) rfl (by simp (disch := first | omega | decide) only [go_sem, f0, f1, opn_cond]; rfl))
        · intro hc K hK
          have hc2 := hc
          simp only [beq_iff_eq, decide_eq_true_eq, decide_eq_false_iff_not, Bool.or_eq_true, Bool.and_eq_true, Bool.or_eq_false_iff, Bool.and_eq_false_iff] at hc2
          simp (disch := first | omega | decide) only [go_sem, f0, f1, opn_cond, hc, if_true, act_load_t ti56]
          first | rw [mwp_load_bs (by simp (disch := first | omega | decide) only [go_sem, f0, f1, opn_cond, hc, if_true]; rfl) (by simp)] | rw [mwp_load_b1 (by simp (disch := first | omega | decide) only [go_sem, f0, f1, opn_cond, hc, if_true]; rfl) (by rfl)] | rw [mwp_aLoad_map (by simp (disch := first | omega | decide) only [go_sem, f0, f1, opn_cond, hc, if_true]; rfl) (by first | omega | (simp; omega)) (fun _ => rfl)] | rw [mwp_aLoad_e1 (by simp (disch := first | omega | decide) only [go_sem, f0, f1, opn_cond, hc, if_true]; rfl) (by simp) rfl] | skip
          exact hK _
        apply aops_merge' (by decide) (by first | exact want_of (d := 111) rfl (by simp (disch := first | omega | decide) only [go_sem, f0, f1, opn_cond]; rfl) | exact want_of_cond (d := 111) rfl (by simp (disch := first | omega | decide) only [go_sem, f0, f1, opn_cond]; rfl))
        · intro hc K hK
          have hc2 := hc
          simp only [beq_iff_eq, decide_eq_true_eq, decide_eq_false_iff_not, Bool.or_eq_true, Bool.and_eq_true, Bool.or_eq_false_iff, Bool.and_eq_false_iff] at hc2
          simp (disch := first | omega | decide) only [go_sem, f0, f1, opn_cond, hc, if_true, act_build_t ti56 pl56]
          simp [-List.map_take, -List.map_drop, fillL, okOne, cellishAV, Value.oneCell', cellsL, cellsOf, setAt, M.bind, Mwp]
          exact hK _
        apply aops_merge' (by decide) (by first | exact want_of (d := 111) rfl (by simp (disch := first | omega | decide) only [go_sem, f0, f1, opn_cond]; rfl) | exact want_of_cond (d := 111) rfl (by simp (disch := first | omega | decide) only [go_sem, f0, f1, opn_cond]; rfl))
        · intro hc K hK
          have hc2 := hc
          simp only [beq_iff_eq, decide_eq_true_eq, decide_eq_false_iff_not, Bool.or_eq_true, Bool.and_eq_true, Bool.or_eq_false_iff, Bool.and_eq_false_iff] at hc2
          simp (disch := first | omega | decide) only [go_sem, f0, f1, opn_cond, hc, if_true, bin_neq_s us56 fl56 eg56]
          exact hK _
        apply aops_merge' (by decide) (by first | exact want_of (d := 104) rfl (by simp (disch := first | omega | decide) only [go_sem, f0, f1, opn_cond]; rfl) | exact want_of_cond (d := 104) rfl (by simp (disch := first | omega | decide) only [go_sem, f0, f1, opn_cond]; rfl))
        · intro hc K hK
          have hc2 := hc
          simp only [beq_iff_eq, decide_eq_true_eq, decide_eq_false_iff_not, Bool.or_eq_true, Bool.and_eq_true, Bool.or_eq_false_iff, Bool.and_eq_false_iff] at hc2
          simp (disch := first | omega | decide) only [go_sem, f0, f1, opn_cond, hc, if_true]
          exact hK _
        iterate 2 (apply aops_step (by decide) rfl; · (intro K hK; simp (disch := first | omega | decide) only [go_sem, f0, f1]; exact hK _))
        apply aops_merge' (by decide) (by first | exact want_of (d := 117) rfl (by simp (disch := first | omega | decide) only [go_sem, f0, f1, opn_cond]; rfl) | exact want_of_cond (d := 117) rfl (by simp (disch := first | omega | decide) only [go_sem, f0, f1, opn_cond]; rfl))
        · intro hc K hK
          have hc2 := hc
          simp only [beq_iff_eq, decide_eq_true_eq, decide_eq_false_iff_not, Bool.or_eq_true, Bool.and_eq_true, Bool.or_eq_false_iff, Bool.and_eq_false_iff] at hc2
          simp (disch := first | omega | decide) only [go_sem, f0, f1, opn_cond, hc, if_true, act_fieldAddr_t fo56_0]
          first | rw [mwp_fieldAddr_b (by simp (disch := first | omega | decide) only [go_sem, f0, f1, opn_cond, hc, if_true]; rfl)] | skip
          exact hK _
        apply aops_merge' (by decide) (by first | exact want_of (d := 117) rfl (by simp (disch := first | omega | decide) only [go_sem, f0, f1, opn_cond]; rfl) | exact want_of_cond (d := 117) rfl (by simp (disch := first | omega | decide) only [go_sem, f0, f1, opn_cond]; rfl))
        · intro hc K hK
          have hc2 := hc
          simp only [beq_iff_eq, decide_eq_true_eq, decide_eq_false_iff_not, Bool.or_eq_true, Bool.and_eq_true, Bool.or_eq_false_iff, Bool.and_eq_false_iff] at hc2
          simp (disch := first | omega | decide) only [go_sem, f0, f1, opn_cond, hc, if_true, act_load_t ti3]
          first | rw [mwp_load_bs (by simp (disch := first | omega | decide) only [go_sem, f0, f1, opn_cond, hc, if_true]; rfl) (by simp)] | rw [mwp_load_b1 (by simp (disch := first | omega | decide) only [go_sem, f0, f1, opn_cond, hc, if_true]; rfl) (by rfl)] | rw [mwp_aLoad_map (by simp (disch := first | omega | decide) only [go_sem, f0, f1, opn_cond, hc, if_true]; rfl) (by first | omega | (simp; omega)) (fun _ => rfl)] | rw [mwp_aLoad_e1 (by simp (disch := first | omega | decide) only [go_sem, f0, f1, opn_cond, hc, if_true]; rfl) (by simp) rfl] | skip
          exact hK _
        apply aops_merge' (by decide) (by first | exact want_of (d := 117) rfl (by simp (disch := first | omega | decide) only [go_sem, f0, f1, opn_cond]; rfl) | exact want_of_cond (d := 117) rfl (by simp (disch := first | omega | decide) only [go_sem, f0, f1, opn_cond]; rfl))
        · intro hc K hK
          have hc2 := hc
          simp only [beq_iff_eq, decide_eq_true_eq, decide_eq_false_iff_not, Bool.or_eq_true, Bool.and_eq_true, Bool.or_eq_false_iff, Bool.and_eq_false_iff] at hc2
          simp (disch := first | omega | decide) only [go_sem, f0, f1, opn_cond, hc, if_true, act_fieldAddr_t fo56_1]
          first | rw [mwp_fieldAddr_b (by simp (disch := first | omega | decide) only [go_sem, f0, f1, opn_cond, hc, if_true]; rfl)] | skip
          exact hK _
        apply aops_merge' (by decide) (by first | exact want_of (d := 117) rfl (by simp (disch := first | omega | decide) only [go_sem, f0, f1, opn_cond]; rfl) | exact want_of_cond (d := 117) rfl (by simp (disch := first | omega | decide) only [go_sem, f0, f1, opn_cond]; rfl))
        · intro hc K hK
          have hc2 := hc
          simp only [beq_iff_eq, decide_eq_true_eq, decide_eq_false_iff_not, Bool.or_eq_true, Bool.and_eq_true, Bool.or_eq_false_iff, Bool.and_eq_false_iff] at hc2
          simp (disch := first | omega | decide) only [go_sem, f0, f1, opn_cond, hc, if_true, act_load_t ti3]
          first | rw [mwp_load_bs (by simp (disch := first | omega | decide) only [go_sem, f0, f1, opn_cond, hc, if_true]; rfl) (by simp)] | rw [mwp_load_b1 (by simp (disch := first | omega | decide) only [go_sem, f0, f1, opn_cond, hc, if_true]; rfl) (by rfl)] | rw [mwp_aLoad_map (by simp (disch := first | omega | decide) only [go_sem, f0, f1, opn_cond, hc, if_true]; rfl) (by first | omega | (simp; omega)) (fun _ => rfl)] | rw [mwp_aLoad_e1 (by simp (disch := first | omega | decide) only [go_sem, f0, f1, opn_cond, hc, if_true]; rfl) (by simp) rfl] | skip
          exact hK _
        apply aops_merge' (by decide) (by first | exact want_of (d := 117) rfl (by simp (disch := first | omega | decide) only [go_sem, f0, f1, opn_cond]; rfl) | exact want_of_cond (d := 117) rfl (by simp (disch := first | omega | decide) only [go_sem, f0, f1, opn_cond]; rfl))
        · intro hc K hK
          have hc2 := hc
          simp only [beq_iff_eq, decide_eq_true_eq, decide_eq_false_iff_not, Bool.or_eq_true, Bool.and_eq_true, Bool.or_eq_false_iff, Bool.and_eq_false_iff] at hc2
          simp (disch := first | omega | decide) only [go_sem, f0, f1, opn_cond, hc, if_true]
          exact hK _
        apply aops_merge' (by decide) (by first | exact want_of (d := 117) rfl (by simp (disch := first | omega | decide) only [go_sem, f0, f1, opn_cond]; rfl) | exact want_of_cond (d := 117) rfl (by simp (disch := first | omega | decide) only [go_sem, f0, f1, opn_cond]; rfl))
        · intro hc K hK
          have hc2 := hc
          simp only [beq_iff_eq, decide_eq_true_eq, decide_eq_false_iff_not, Bool.or_eq_true, Bool.and_eq_true, Bool.or_eq_false_iff, Bool.and_eq_false_iff] at hc2
          simp (disch := first | omega | decide) only [go_sem, f0, f1, opn_cond, hc, if_true]
          exact hK _
        apply aops_merge' (by decide) (by first | exact want_of (d := 123) rfl (by simp (disch := first | omega | decide) only [go_sem, f0, f1, opn_cond]; rfl) | exact want_of_cond (d := 123) rfl (by simp (disch := first | omega | decide) only [go_sem, f0, f1, opn_cond]; rfl))
        · intro hc K hK
          have hc2 := hc
          simp only [beq_iff_eq, decide_eq_true_eq, decide_eq_false_iff_not, Bool.or_eq_true, Bool.and_eq_true, Bool.or_eq_false_iff, Bool.and_eq_false_iff] at hc2
          simp (disch := first | omega | decide) only [go_sem, f0, f1, opn_cond, hc, if_true]
          exact hK _
        apply aops_merge' (by decide) (by first | exact want_of (d := 123) rfl (by simp (disch := first | omega | decide) only [go_sem, f0, f1, opn_cond]; rfl) | exact want_of_cond (d := 123) rfl (by simp (disch := first | omega | decide) only [go_sem, f0, f1, opn_cond]; rfl))
        · intro hc K hK
          have hc2 := hc
          simp only [beq_iff_eq, decide_eq_true_eq, decide_eq_false_iff_not, Bool.or_eq_true, Bool.and_eq_true, Bool.or_eq_false_iff, Bool.and_eq_false_iff] at hc2
          simp (disch := first | omega | decide) only [go_sem, f0, f1, opn_cond, hc, if_true]
          exact hK _
        apply aops_merge' (by decide) (by first | exact want_of (d := 123) rfl (by simp (disch := first | omega | decide) only [go_sem, f0, f1, opn_cond]; rfl) | exact want_of_cond (d := 123) rfl (by simp (disch := first | omega | decide) only [go_sem, f0, f1, opn_cond]; rfl))
        · intro hc K hK
          have hc2 := hc
          simp only [beq_iff_eq, decide_eq_true_eq, decide_eq_false_iff_not, Bool.or_eq_true, Bool.and_eq_true, Bool.or_eq_false_iff, Bool.and_eq_false_iff] at hc2
          simp (disch := first | omega | decide) only [go_sem, f0, f1, opn_cond, hc, if_true]
          exact hK _
        apply aops_merge' (by decide) (by first | exact want_of (d := 126) rfl (by simp (disch := first | omega | decide) only [go_sem, f0, f1, opn_cond]; rfl) | exact want_of_cond (d := 126) rfl (by simp (disch := first | omega | decide) only [go_sem, f0, f1, opn_cond]; rfl))
        · intro hc K hK
          have hc2 := hc
          simp only [beq_iff_eq, decide_eq_true_eq, decide_eq_false_iff_not, Bool.or_eq_true, Bool.and_eq_true, Bool.or_eq_false_iff, Bool.and_eq_false_iff] at hc2
          simp (disch := first | omega | decide) only [go_sem, f0, f1, opn_cond, hc, if_true]
          exact hK _
        apply aops_merge' (by decide) (by first | exact want_of (d := 126) rfl (by simp (disch := first | omega | decide) only [go_sem, f0, f1, opn_cond]; rfl) | exact want_of_cond (d := 126) rfl (by simp (disch := first | omega | decide) only [go_sem, f0, f1, opn_cond]; rfl))
        · intro hc K hK
          have hc2 := hc
          simp only [beq_iff_eq, decide_eq_true_eq, decide_eq_false_iff_not, Bool.or_eq_true, Bool.and_eq_true, Bool.or_eq_false_iff, Bool.and_eq_false_iff] at hc2
          simp (disch := first | omega | decide) only [go_sem, f0, f1, opn_cond, hc, if_true, act_fieldAddr_t fo56_0]
          first | rw [mwp_fieldAddr_b (by simp (disch := first | omega | decide) only [go_sem, f0, f1, opn_cond, hc, if_true]; rfl)] | skip
          exact hK _
        apply aops_merge' (by decide) (by first | exact want_of (d := 126) rfl (by simp (disch := first | omega | decide) only [go_sem, f0, f1, opn_cond]; rfl) | exact want_of_cond (d := 126) rfl (by simp (disch := first | omega | decide) only [go_sem, f0, f1, opn_cond]; rfl))
        · intro hc K hK
          have hc2 := hc
          simp only [beq_iff_eq, decide_eq_true_eq, decide_eq_false_iff_not, Bool.or_eq_true, Bool.and_eq_true, Bool.or_eq_false_iff, Bool.and_eq_false_iff] at hc2
          simp (disch := first | omega | decide) only [go_sem, f0, f1, opn_cond, hc, if_true, act_load_t ti3]
          first | rw [mwp_load_bs (by simp (disch := first | omega | decide) only [go_sem, f0, f1, opn_cond, hc, if_true]; rfl) (by simp)] | rw [mwp_load_b1 (by simp (disch := first | omega | decide) only [go_sem, f0, f1, opn_cond, hc, if_true]; rfl) (by rfl)] | rw [mwp_aLoad_map (by simp (disch := first | omega | decide) only [go_sem, f0, f1, opn_cond, hc, if_true]; rfl) (by first | omega | (simp; omega)) (fun _ => rfl)] | rw [mwp_aLoad_e1 (by simp (disch := first | omega | decide) only [go_sem, f0, f1, opn_cond, hc, if_true]; rfl) (by simp) rfl] | skip
          exact hK _
        apply aops_merge' (by decide) (by first | exact want_of (d := 126) rfl (by simp (disch := first | omega | decide) only [go_sem, f0, f1, opn_cond]; rfl) | exact want_of_cond (d := 126) rfl (by simp (disch := first | omega | decide) only [go_sem, f0, f1, opn_cond]; rfl))
        · intro hc K hK
          have hc2 := hc
          simp only [beq_iff_eq, decide_eq_true_eq, decide_eq_false_iff_not, Bool.or_eq_true, Bool.and_eq_true, Bool.or_eq_false_iff, Bool.and_eq_false_iff] at hc2
          simp (disch := first | omega | decide) only [go_sem, f0, f1, opn_cond, hc, if_true]
          exact hK _
        apply aops_merge' (by decide) (by first | exact want_of (d := 123) rfl (by simp (disch := first | omega | decide) only [go_sem, f0, f1, opn_cond]; rfl) | exact want_of_cond (d := 123) rfl (by simp (disch := first | omega | decide) only [go_sem, f0, f1, opn_cond]; rfl))
        · intro hc K hK
          have hc2 := hc
          simp only [beq_iff_eq, decide_eq_true_eq, decide_eq_false_iff_not, Bool.or_eq_true, Bool.and_eq_true, Bool.or_eq_false_iff, Bool.and_eq_false_iff] at hc2
          simp (disch := first | omega | decide) only [go_sem, f0, f1, opn_cond, hc, if_true]
          exact hK _
        apply aops_merge' (by decide) (by first | exact want_of (d := 123) rfl (by simp (disch := first | omega | decide) only [go_sem, f0, f1, opn_cond]; rfl) | exact want_of_cond (d := 123) rfl (by simp (disch := first | omega | decide) only [go_sem, f0, f1, opn_cond]; rfl))
        · intro hc K hK
          have hc2 := hc
          simp only [beq_iff_eq, decide_eq_true_eq, decide_eq_false_iff_not, Bool.or_eq_true, Bool.and_eq_true, Bool.or_eq_false_iff, Bool.and_eq_false_iff] at hc2
          simp (disch := first | omega | decide) only [go_sem, f0, f1, opn_cond, hc, if_true]
          exact hK _
        apply aops_merge' (by decide) (by first | exact want_of (d := 132) rfl (by simp (disch := first | omega | decide) only [go_sem, f0, f1, opn_cond]; rfl) | exact want_of_cond (d := 132) rfl (by simp (disch := first | omega | decide) only [go_sem, f0, f1, opn_cond]; rfl))
        · intro hc K hK
          have hc2 := hc
          simp only [beq_iff_eq, decide_eq_true_eq, decide_eq_false_iff_not, Bool.or_eq_true, Bool.and_eq_true, Bool.or_eq_false_iff, Bool.and_eq_false_iff] at hc2
          simp (disch := first | omega | decide) only [go_sem, f0, f1, opn_cond, hc, if_true, act_load_t ti56]
          first | rw [mwp_load_bs (by simp (disch := first | omega | decide) only [go_sem, f0, f1, opn_cond, hc, if_true]; rfl) (by simp)] | rw [mwp_load_b1 (by simp (disch := first | omega | decide) only [go_sem, f0, f1, opn_cond, hc, if_true]; rfl) (by rfl)] | rw [mwp_aLoad_map (by simp (disch := first | omega | decide) only [go_sem, f0, f1, opn_cond, hc, if_true]; rfl) (by first | omega | (simp; omega)) (fun _ => rfl)] | rw [mwp_aLoad_e1 (by simp (disch := first | omega | decide) only [go_sem, f0, f1, opn_cond, hc, if_true]; rfl) (by simp) rfl] | skip
          exact hK _
        apply aops_merge' (by decide) (by first | exact want_of (d := 132) rfl (by simp (disch := first | omega | decide) only [go_sem, f0, f1, opn_cond]; rfl) | exact want_of_cond (d := 132) rfl (by simp (disch := first | omega | decide) only [go_sem, f0, f1, opn_cond]; rfl))
        · intro hc K hK
          have hc2 := hc
          simp only [beq_iff_eq, decide_eq_true_eq, decide_eq_false_iff_not, Bool.or_eq_true, Bool.and_eq_true, Bool.or_eq_false_iff, Bool.and_eq_false_iff] at hc2
          simp (disch := first | omega | decide) only [go_sem, f0, f1, opn_cond, hc, if_true, act_fieldAddr_t fo56_0]
          first | rw [mwp_fieldAddr_b (by simp (disch := first | omega | decide) only [go_sem, f0, f1, opn_cond, hc, if_true]; rfl)] | skip
          exact hK _
        apply aops_merge' (by decide) (by first | exact want_of (d := 132) rfl (by simp (disch := first | omega | decide) only [go_sem, f0, f1, opn_cond]; rfl) | exact want_of_cond (d := 132) rfl (by simp (disch := first | omega | decide) only [go_sem, f0, f1, opn_cond]; rfl))
        · intro hc K hK
          have hc2 := hc
          simp only [beq_iff_eq, decide_eq_true_eq, decide_eq_false_iff_not, Bool.or_eq_true, Bool.and_eq_true, Bool.or_eq_false_iff, Bool.and_eq_false_iff] at hc2
          simp (disch := first | omega | decide) only [go_sem, f0, f1, opn_cond, hc, if_true, act_load_t ti3]
          first | rw [mwp_load_bs (by simp (disch := first | omega | decide) only [go_sem, f0, f1, opn_cond, hc, if_true]; rfl) (by simp)] | rw [mwp_load_b1 (by simp (disch := first | omega | decide) only [go_sem, f0, f1, opn_cond, hc, if_true]; rfl) (by rfl)] | rw [mwp_aLoad_map (by simp (disch := first | omega | decide) only [go_sem, f0, f1, opn_cond, hc, if_true]; rfl) (by first | omega | (simp; omega)) (fun _ => rfl)] | rw [mwp_aLoad_e1 (by simp (disch := first | omega | decide) only [go_sem, f0, f1, opn_cond, hc, if_true]; rfl) (by simp) rfl] | skip
          exact hK _
        apply aops_merge' (by decide) (by first | exact want_of (d := 132) rfl (by simp (disch := first | omega | decide) only [go_sem, f0, f1, opn_cond]; rfl) | exact want_of_cond (d := 132) rfl (by simp (disch := first | omega | decide) only [go_sem, f0, f1, opn_cond]; rfl))
        · intro hc K hK
          have hc2 := hc
          simp only [beq_iff_eq, decide_eq_true_eq, decide_eq_false_iff_not, Bool.or_eq_true, Bool.and_eq_true, Bool.or_eq_false_iff, Bool.and_eq_false_iff] at hc2
          simp (disch := first | omega | decide) only [go_sem, f0, f1, opn_cond, hc, if_true]
          exact hK _
        apply aops_merge' (by decide) (by first | exact want_of (d := 132) rfl (by simp (disch := first | omega | decide) only [go_sem, f0, f1, opn_cond]; rfl) | exact want_of_cond (d := 132) rfl (by simp (disch := first | omega | decide) only [go_sem, f0, f1, opn_cond]; rfl))
        · intro hc K hK
          have hc2 := hc
          simp only [beq_iff_eq, decide_eq_true_eq, decide_eq_false_iff_not, Bool.or_eq_true, Bool.and_eq_true, Bool.or_eq_false_iff, Bool.and_eq_false_iff] at hc2
          simp (disch := first | omega | decide) only [go_sem, f0, f1, opn_cond, hc, if_true, act_fieldAddr_t fo56_1]
          first | rw [mwp_fieldAddr_b (by simp (disch := first | omega | decide) only [go_sem, f0, f1, opn_cond, hc, if_true]; rfl)] | skip
          exact hK _
        apply aops_merge' (by decide) (by first | exact want_of (d := 132) rfl (by simp (disch := first | omega | decide) only [go_sem, f0, f1, opn_cond]; rfl) | exact want_of_cond (d := 132) rfl (by simp (disch := first | omega | decide) only [go_sem, f0, f1, opn_cond]; rfl))
        · intro hc K hK
          have hc2 := hc
          simp only [beq_iff_eq, decide_eq_true_eq, decide_eq_false_iff_not, Bool.or_eq_true, Bool.and_eq_true, Bool.or_eq_false_iff, Bool.and_eq_false_iff] at hc2
          simp (disch := first | omega | decide) only [go_sem, f0, f1, opn_cond, hc, if_true, act_load_t ti3]
          first | rw [mwp_load_bs (by simp (disch := first | omega | decide) only [go_sem, f0, f1, opn_cond, hc, if_true]; rfl) (by simp)] | rw [mwp_load_b1 (by simp (disch := first | omega | decide) only [go_sem, f0, f1, opn_cond, hc, if_true]; rfl) (by rfl)] | rw [mwp_aLoad_map (by simp (disch := first | omega | decide) only [go_sem, f0, f1, opn_cond, hc, if_true]; rfl) (by first | omega | (simp; omega)) (fun _ => rfl)] | rw [mwp_aLoad_e1 (by simp (disch := first | omega | decide) only [go_sem, f0, f1, opn_cond, hc, if_true]; rfl) (by simp) rfl] | skip
          exact hK _
        apply aops_merge' (by decide) (by first | exact want_of (d := 132) rfl (by simp (disch := first | omega | decide) only [go_sem, f0, f1, opn_cond]; rfl) | exact want_of_cond (d := 132) rfl (by simp (disch := first | omega | decide) only [go_sem, f0, f1, opn_cond]; rfl))
        · intro hc K hK
          have hc2 := hc
          simp only [beq_iff_eq, decide_eq_true_eq, decide_eq_false_iff_not, Bool.or_eq_true, Bool.and_eq_true, Bool.or_eq_false_iff, Bool.and_eq_false_iff] at hc2
          simp (disch := first | omega | decide) only [go_sem, f0, f1, opn_cond, hc, if_true, act_build_t ti56 pl56]
          simp [-List.map_take, -List.map_drop, fillL, okOne, cellishAV, Value.oneCell', cellsL, cellsOf, setAt, M.bind, Mwp]
          exact hK _
        apply aops_merge' (by decide) (by first | exact want_of (d := 132) rfl (by simp (disch := first | omega | decide) only [go_sem, f0, f1, opn_cond]; rfl) | exact want_of_cond (d := 132) rfl (by simp (disch := first | omega | decide) only [go_sem, f0, f1, opn_cond]; rfl))
        · intro hc K hK
          have hc2 := hc
          simp only [beq_iff_eq, decide_eq_true_eq, decide_eq_false_iff_not, Bool.or_eq_true, Bool.and_eq_true, Bool.or_eq_false_iff, Bool.and_eq_false_iff] at hc2
          simp (disch := first | omega | decide) only [go_sem, f0, f1, opn_cond, hc, if_true, bin_neq_s us56 fl56 eg56]
          exact hK _
        apply aops_merge' (by decide) (by first | exact want_of (d := 123) rfl (by simp (disch := first | omega | decide) only [go_sem, f0, f1, opn_cond]; rfl) | exact want_of_cond (d := 123) rfl (by simp (disch := first | omega | decide) only [go_sem, f0, f1, opn_cond]; rfl))
        · intro hc K hK
          have hc2 := hc
          simp only [beq_iff_eq, decide_eq_true_eq, decide_eq_false_iff_not, Bool.or_eq_true, Bool.and_eq_true, Bool.or_eq_false_iff, Bool.and_eq_false_iff] at hc2
          simp (disch := first | omega | decide) only [go_sem, f0, f1, opn_cond, hc, if_true]
          exact hK _
        apply aops_merge' (by decide) (by first | exact want_of (d := 117) rfl (by simp (disch := first | omega | decide) only [go_sem, f0, f1, opn_cond]; rfl) | exact want_of_cond (d := 117) rfl (by simp (disch := first | omega | decide) only [go_sem, f0, f1, opn_cond]; rfl))
        · intro hc K hK
          have hc2 := hc
          simp only [beq_iff_eq, decide_eq_true_eq, decide_eq_false_iff_not, Bool.or_eq_true, Bool.and_eq_true, Bool.or_eq_false_iff, Bool.and_eq_false_iff] at hc2
          simp (disch := first | omega | decide) only [go_sem, f0, f1, opn_cond, hc, if_true]
          exact hK _
        iterate 1 (apply aops_step (by decide) rfl; · (intro K hK; simp (disch := first | omega | decide) only [go_sem, f0, f1]; exact hK _))
        refine aops_nil ?_
        apply AW.cond
        · simp (disch := first | omega | decide) only [go_sem, f0, f1]; rfl
        case ht =>
          intro hb
          try simp only [Bool.or_eq_true, Bool.and_eq_true, Bool.or_eq_false_iff, Bool.and_eq_false_iff, decide_eq_true_eq, decide_eq_false_iff_not] at hb
          have hbt143 := hb
          refine AW.seq ?_
          refine AW.region (cfg := cfg) ?_
          iterate 1 (apply aops_step (by decide) rfl; · (intro K hK; simp (disch := first | omega | decide) only [go_sem, f0, f1]; exact hK _))
          refine aops_nil ?_
          refine AW.ret ?_
          refine ⟨.inr rfl, ?_⟩
          refine leaves_tmp1 4 rfl ?_ (by first | rfl | exact hG)
          simp (disch := first | omega | decide) only [go_sem, f0, f1]
          clear hr hv hG f0 f1
          all_goals first | done | (cases hm : mayS x u <;> first | grind [aN, aU, aE, aBad, tV, tN, tU, tE, wV, wE, gN, gU, gE, gBad, rW] | trace_state)
        case hf =>
          intro hb
          try simp only [Bool.or_eq_true, Bool.and_eq_true, Bool.or_eq_false_iff, Bool.and_eq_false_iff, decide_eq_true_eq, decide_eq_false_iff_not] at hb
          have hbt143 := hb
          refine AW.skip ?_
          refine AW.seq ?_
          refine AW.region (cfg := cfg) ?_
          apply aops_step (by decide) rfl
          · intro K hK
            simp (disch := first | omega | decide) only [go_sem, f0, f1, act_load_t ti56, List.map]
            first | rw [mwp_load_bs (by simp (disch := first | omega | decide) only [go_sem, f0, f1]; rfl) (by simp)] | rw [mwp_load_b1 (by simp (disch := first | omega | decide) only [go_sem, f0, f1]; rfl) (by rfl)] | rw [mwp_aLoad_map (by simp (disch := first | omega | decide) only [go_sem, f0, f1]; rfl) (by first | omega | (simp; omega)) (fun _ => rfl)] | rw [mwp_aLoad_e1 (by simp (disch := first | omega | decide) only [go_sem, f0, f1]; rfl) (by simp) rfl] | skip
            exact hK _
          apply aops_step (by decide) rfl
          · intro K hK
            simp (disch := first | omega | decide) only [go_sem, f0, f1, act_call, List.map]
            apply mwp_call_s rfl rfl rfl
            · intro Q hQ
              simp (disch := first | omega | decide) only [go_sem, f0, f1, peekL]
              first | exact hQ | (rw [peek_own (by simp (disch := first | omega | decide) only [go_sem, f0, f1, peekL]; rfl)]; exact hQ) | (rw [peek_own (by simp (disch := first | omega | decide) only [go_sem, f0, f1, peekL]; rfl)]; simp (disch := first | omega | decide) only [go_sem, f0, f1, peekL]; rw [peek_own (by simp (disch := first | omega | decide) only [go_sem, f0, f1, peekL]; rfl)]; exact hQ) | (rw [peek_own (by simp (disch := first | omega | decide) only [go_sem, f0, f1, peekL]; rfl)]; simp (disch := first | omega | decide) only [go_sem, f0, f1, peekL]; exact hQ)
            · exact good_refWant _ _ (by omega)
            · simp [-List.map_take, -List.map_drop, noPtrL, noPtr, noPtrL_bsl, noPtrL_map, sub]
            · rfl
            · exact hK _
          iterate 1 (apply aops_step (by decide) rfl; · (intro K hK; simp (disch := first | omega | decide) only [go_sem, f0, f1]; exact hK _))
          refine aops_nil ?_
          refine AW.seq ?_
          refine AW.seq ?_
          refine AW.region (cfg := cfg) ?_
          iterate 4 (apply aops_step (by decide) rfl; · (intro K hK; simp (disch := first | omega | decide) only [go_sem, f0, f1]; exact hK _))
          apply aops_merge' (by decide) (by first | exact want_of (d := 149) rfl (by simp (disch := first | omega | decide) only [go_sem, f0, f1, opn_cond]; rfl) | exact want_of_cond (d := 149) rfl (by simp (disch := first | omega | decide) only [go_sem, f0, f1, opn_cond]; rfl))
          · intro hc K hK
            have hc2 := hc
            simp only [beq_iff_eq, decide_eq_true_eq, decide_eq_false_iff_not, Bool.or_eq_true, Bool.and_eq_true, Bool.or_eq_false_iff, Bool.and_eq_false_iff] at hc2
            simp (disch := first | omega | decide) only [go_sem, f0, f1, opn_cond, hc, if_true]
            exact hK _
          apply aops_merge' (by decide) (by first | exact want_of (d := 149) rfl (by simp (disch := first | omega | decide) only [go_sem, f0, f1, opn_cond]; rfl) | exact want_of_cond (d := 149) rfl (by simp (disch := first | omega | decide) only [go_sem, f0, f1, opn_cond]; rfl))
          · intro hc K hK
            have hc2 := hc
            simp only [beq_iff_eq, decide_eq_true_eq, decide_eq_false_iff_not, Bool.or_eq_true, Bool.and_eq_true, Bool.or_eq_false_iff, Bool.and_eq_false_iff] at hc2
            simp (disch := first | omega | decide) only [go_sem, f0, f1, opn_cond, hc, if_true]
            exact hK _
          apply aops_merge' (by decide) (by first | exact want_of (d := 149) rfl (by simp (disch := first | omega | decide) only [go_sem, f0, f1, opn_cond]; rfl) | exact want_of_cond (d := 149) rfl (by simp (disch := first | omega | decide) only [go_sem, f0, f1, opn_cond]; rfl))
          · intro hc K hK
            have hc2 := hc
            simp only [beq_iff_eq, decide_eq_true_eq, decide_eq_false_iff_not, Bool.or_eq_true, Bool.and_eq_true, Bool.or_eq_false_iff, Bool.and_eq_false_iff] at hc2
            simp (disch := first | omega | decide) only [go_sem, f0, f1, opn_cond, hc, if_true]
            exact hK _
          apply aops_merge' (by decide) (by first | exact want_of (d := 149) rfl (by simp (disch := first | omega | decide) only [go_sem, f0, f1, opn_cond]; rfl) | exact want_of_cond (d := 149) rfl (by simp (disch := first | omega | decide) only [go_sem, f0, f1, opn_cond]; rfl))
          · intro hc K hK
            have hc2 := hc
            simp only [beq_iff_eq, decide_eq_true_eq, decide_eq_false_iff_not, Bool.or_eq_true, Bool.and_eq_true, Bool.or_eq_false_iff, Bool.and_eq_false_iff] at hc2
            simp (disch := first | omega | decide) only [go_sem, f0, f1, opn_cond, hc, if_true]
            exact hK _
          apply aops_merge' (by decide) (by first | exact want_of (d := 149) rfl (by simp (disch := first | omega | decide) only [go_sem, f0, f1, opn_cond]; rfl) | exact want_of_cond (d := 149) rfl (by simp (disch := first | omega | decide) only [go_sem, f0, f1, opn_cond]; rfl))
          · intro hc K hK
            have hc2 := hc
            simp only [beq_iff_eq, decide_eq_true_eq, decide_eq_false_iff_not, Bool.or_eq_true, Bool.and_eq_true, Bool.or_eq_false_iff, Bool.and_eq_false_iff] at hc2
            simp (disch := first | omega | decide) only [go_sem, f0, f1, opn_cond, hc, if_true, bin_neq_b u4]
            exact hK _
          iterate 2 (apply aops_step (by decide) rfl; · (intro K hK; simp (disch := first | omega | decide) only [go_sem, f0, f1]; exact hK _))
          apply aops_merge' (by decide) (by first | exact want_of (d := 156) rfl (by simp (disch := first | omega | decide) only [go_sem, f0, f1, opn_cond]; rfl) | exact want_of_cond (d := 156) rfl (by simp (disch := first | omega | decide) only [go_sem, f0, f1, opn_cond]; rfl))
          · intro hc K hK
            have hc2 := hc
            simp only [beq_iff_eq, decide_eq_true_eq, decide_eq_false_iff_not, Bool.or_eq_true, Bool.and_eq_true, Bool.or_eq_false_iff, Bool.and_eq_false_iff] at hc2
            simp (disch := first | omega | decide) only [go_sem, f0, f1, opn_cond, hc, if_true]
            exact hK _
          apply aops_merge' (by decide) (by first | exact want_of (d := 156) rfl (by simp (disch := first | omega | decide) only [go_sem, f0, f1, opn_cond]; rfl) | exact want_of_cond (d := 156) rfl (by simp (disch := first | omega | decide) only [go_sem, f0, f1, opn_cond]; rfl))
          · intro hc K hK
            have hc2 := hc
            simp only [beq_iff_eq, decide_eq_true_eq, decide_eq_false_iff_not, Bool.or_eq_true, Bool.and_eq_true, Bool.or_eq_false_iff, Bool.and_eq_false_iff] at hc2
            simp (disch := first | omega | decide) only [go_sem, f0, f1, opn_cond, hc, if_true]
            exact hK _
          apply aops_merge' (by decide) (by first | exact want_of (d := 156) rfl (by simp (disch := first | omega | decide) only [go_sem, f0, f1, opn_cond]; rfl) | exact want_of_cond (d := 156) rfl (by simp (disch := first | omega | decide) only [go_sem, f0, f1, opn_cond]; rfl))
          · intro hc K hK
            have hc2 := hc
            simp only [beq_iff_eq, decide_eq_true_eq, decide_eq_false_iff_not, Bool.or_eq_true, Bool.and_eq_true, Bool.or_eq_false_iff, Bool.and_eq_false_iff] at hc2
            simp (disch := first | omega | decide) only [go_sem, f0, f1, opn_cond, hc, if_true]
            exact hK _
          apply aops_merge' (by decide) (by first | exact want_of (d := 156) rfl (by simp (disch := first | omega | decide) only [go_sem, f0, f1, opn_cond]; rfl) | exact want_of_cond (d := 156) rfl (by simp (disch := first | omega | decide) only [go_sem, f0, f1, opn_cond]; rfl))
          · intro hc K hK
            have hc2 := hc
            simp only [beq_iff_eq, decide_eq_true_eq, decide_eq_false_iff_not, Bool.or_eq_true, Bool.and_eq_true, Bool.or_eq_false_iff, Bool.and_eq_false_iff] at hc2
            simp (disch := first | omega | decide) only [go_sem, f0, f1, opn_cond, hc, if_true]
            exact hK _
          apply aops_merge' (by decide) (by first | exact want_of (d := 156) rfl (by simp (disch := first | omega | decide) only [go_sem, f0, f1, opn_cond]; rfl) | exact want_of_cond (d := 156) rfl (by simp (disch := first | omega | decide) only [go_sem, f0, f1, opn_cond]; rfl))
          · intro hc K hK
            have hc2 := hc
            simp only [beq_iff_eq, decide_eq_true_eq, decide_eq_false_iff_not, Bool.or_eq_true, Bool.and_eq_true, Bool.or_eq_false_iff, Bool.and_eq_false_iff] at hc2
            simp (disch := first | omega | decide) only [go_sem, f0, f1, opn_cond, hc, if_true, bin_neq_b u4]
            exact hK _
          iterate 1 (apply aops_step (by decide) rfl; · (intro K hK; simp (disch := first | omega | decide) only [go_sem, f0, f1]; exact hK _))
          refine aops_nil ?_
          apply AW.cond
          · simp (disch := first | omega | decide) only [go_sem, f0, f1]; rfl
          case ht =>
            intro hb
            try simp only [Bool.or_eq_true, Bool.and_eq_true, Bool.or_eq_false_iff, Bool.and_eq_false_iff, decide_eq_true_eq, decide_eq_false_iff_not] at hb
            have hbt162 := hb
            refine AW.seq ?_
            refine AW.region (cfg := cfg) ?_
            iterate 1 (apply aops_step (by decide) rfl; · (intro K hK; simp (disch := first | omega | decide) only [go_sem, f0, f1]; exact hK _))
            refine aops_nil ?_
            refine AW.ret ?_
            refine ⟨.inr rfl, ?_⟩
            refine leaves_tmp1 4 rfl ?_ (by first | rfl | exact hG)
            simp (disch := first | omega | decide) only [go_sem, f0, f1]
            clear hr hv hG f0 f1
            all_goals first | done | (cases hm : mayS x u <;> first | grind [aN, aU, aE, aBad, tV, tN, tU, tE, wV, wE, gN, gU, gE, gBad, rW] | trace_state)
          case hf =>
            intro hb
            try simp only [Bool.or_eq_true, Bool.and_eq_true, Bool.or_eq_false_iff, Bool.and_eq_false_iff, decide_eq_true_eq, decide_eq_false_iff_not] at hb
            have hbt162 := hb
            refine AW.skip ?_
            refine AW.seq ?_
            refine AW.seq ?_
            refine AW.region (cfg := cfg) ?_
            iterate 1 (apply aops_step (by decide) rfl; · (intro K hK; simp (disch := first | omega | decide) only [go_sem, f0, f1]; exact hK _))
            apply aops_step (by decide) rfl
            · intro K hK
              simp (disch := first | omega | decide) only [go_sem, f0, f1, act_fieldAddr_t fo56_1, List.map]
              first | rw [mwp_fieldAddr_b (by simp (disch := first | omega | decide) only [go_sem, f0, f1]; rfl)] | skip
              exact hK _
            apply aops_step (by decide) rfl
            · intro K hK
              simp (disch := first | omega | decide) only [go_sem, f0, f1, act_load_t ti3, List.map]
              first | rw [mwp_load_bs (by simp (disch := first | omega | decide) only [go_sem, f0, f1]; rfl) (by simp)] | rw [mwp_load_b1 (by simp (disch := first | omega | decide) only [go_sem, f0, f1]; rfl) (by rfl)] | rw [mwp_aLoad_map (by simp (disch := first | omega | decide) only [go_sem, f0, f1]; rfl) (by first | omega | (simp; omega)) (fun _ => rfl)] | rw [mwp_aLoad_e1 (by simp (disch := first | omega | decide) only [go_sem, f0, f1]; rfl) (by simp) rfl] | skip
              exact hK _
            iterate 2 (apply aops_step (by decide) rfl; · (intro K hK; simp (disch := first | omega | decide) only [go_sem, f0, f1]; exact hK _))
            apply aops_merge' (by decide) (by first | exact want_of (d := 167) rfl (by simp (disch := first | omega | decide) only [go_sem, f0, f1, opn_cond]; rfl) | exact want_of_cond (d := 167) rfl (by simp (disch := first | omega | decide) only [go_sem, f0, f1, opn_cond]; rfl))
            · intro hc K hK
              have hc2 := hc
              simp only [beq_iff_eq, decide_eq_true_eq, decide_eq_false_iff_not, Bool.or_eq_true, Bool.and_eq_true, Bool.or_eq_false_iff, Bool.and_eq_false_iff] at hc2
              simp (disch := first | omega | decide) only [go_sem, f0, f1, opn_cond, hc, if_true]
              exact hK _
            apply aops_merge' (by decide) (by first | exact want_of (d := 167) rfl (by simp (disch := first | omega | decide) only [go_sem, f0, f1, opn_cond]; rfl) | exact want_of_cond (d := 167) rfl (by simp (disch := first | omega | decide) only [go_sem, f0, f1, opn_cond]; rfl))
            · intro hc K hK
              have hc2 := hc
              simp only [beq_iff_eq, decide_eq_true_eq, decide_eq_false_iff_not, Bool.or_eq_true, Bool.and_eq_true, Bool.or_eq_false_iff, Bool.and_eq_false_iff] at hc2
              simp (disch := first | omega | decide) only [go_sem, f0, f1, opn_cond, hc, if_true]
              exact hK _
            iterate 1 (apply aops_step (by decide) rfl; · (intro K hK; simp (disch := first | omega | decide) only [go_sem, f0, f1]; exact hK _))
            refine aops_nil ?_
            apply AW.cond
            · simp (disch := first | omega | decide) only [go_sem, f0, f1]; rfl
            case ht =>
              intro hb
              try simp only [Bool.or_eq_true, Bool.and_eq_true, Bool.or_eq_false_iff, Bool.and_eq_false_iff, decide_eq_true_eq, decide_eq_false_iff_not] at hb
              have hbt170 := hb
              refine AW.seq ?_
              refine AW.region (cfg := cfg) ?_
              iterate 3 (apply aops_step (by decide) rfl; · (intro K hK; simp (disch := first | omega | decide) only [go_sem, f0, f1]; exact hK _))
              apply aops_merge' (by decide) (by first | exact want_of (d := 173) rfl (by simp (disch := first | omega | decide) only [go_sem, f0, f1, opn_cond]; rfl) | exact want_of_cond (d := 173) rfl (by simp (disch := first | omega | decide) only [go_sem, f0, f1, opn_cond]; rfl))
              · intro hc K hK
                have hc2 := hc
                simp only [beq_iff_eq, decide_eq_true_eq, decide_eq_false_iff_not, Bool.or_eq_true, Bool.and_eq_true, Bool.or_eq_false_iff, Bool.and_eq_false_iff] at hc2
                simp (disch := first | omega | decide) only [go_sem, f0, f1, opn_cond, hc, if_true, act_load_t ti56]
                first | rw [mwp_load_bs (by simp (disch := first | omega | decide) only [go_sem, f0, f1, opn_cond, hc, if_true]; rfl) (by simp)] | rw [mwp_load_b1 (by simp (disch := first | omega | decide) only [go_sem, f0, f1, opn_cond, hc, if_true]; rfl) (by rfl)] | rw [mwp_aLoad_map (by simp (disch := first | omega | decide) only [go_sem, f0, f1, opn_cond, hc, if_true]; rfl) (by first | omega | (simp; omega)) (fun _ => rfl)] | rw [mwp_aLoad_e1 (by simp (disch := first | omega | decide) only [go_sem, f0, f1, opn_cond, hc, if_true]; rfl) (by simp) rfl] | skip
                exact hK _
              apply aops_merge' (by decide) (by first | exact want_of (d := 173) rfl (by simp (disch := first | omega | decide) only [go_sem, f0, f1, opn_cond]; rfl) | exact want_of_cond (d := 173) rfl (by simp (disch := first | omega | decide) only [go_sem, f0, f1, opn_cond]; rfl))
              · intro hc K hK
                have hc2 := hc
                simp only [beq_iff_eq, decide_eq_true_eq, decide_eq_false_iff_not, Bool.or_eq_true, Bool.and_eq_true, Bool.or_eq_false_iff, Bool.and_eq_false_iff] at hc2
                simp (disch := first | omega | decide) only [go_sem, f0, f1, opn_cond, hc, if_true, act_build_t ti56 pl56]
                simp [-List.map_take, -List.map_drop, fillL, okOne, cellishAV, Value.oneCell', cellsL, cellsOf, setAt, M.bind, Mwp]
                exact hK _
              apply aops_merge' (by decide) (by first | exact want_of (d := 173) rfl (by simp (disch := first | omega | decide) only [go_sem, f0, f1, opn_cond]; rfl) | exact want_of_cond (d := 173) rfl (by simp (disch := first | omega | decide) only [go_sem, f0, f1, opn_cond]; rfl))
              · intro hc K hK
                have hc2 := hc
                simp only [beq_iff_eq, decide_eq_true_eq, decide_eq_false_iff_not, Bool.or_eq_true, Bool.and_eq_true, Bool.or_eq_false_iff, Bool.and_eq_false_iff] at hc2
                simp (disch := first | omega | decide) only [go_sem, f0, f1, opn_cond, hc, if_true, bin_eql_s us56 fl56 eg56]
                exact hK _
              iterate 2 (apply aops_step (by decide) rfl; · (intro K hK; simp (disch := first | omega | decide) only [go_sem, f0, f1]; exact hK _))
              apply aops_merge' (by decide) (by first | exact want_of (d := 178) rfl (by simp (disch := first | omega | decide) only [go_sem, f0, f1, opn_cond]; rfl) | exact want_of_cond (d := 178) rfl (by simp (disch := first | omega | decide) only [go_sem, f0, f1, opn_cond]; rfl))
              · intro hc K hK
                have hc2 := hc
                simp only [beq_iff_eq, decide_eq_true_eq, decide_eq_false_iff_not, Bool.or_eq_true, Bool.and_eq_true, Bool.or_eq_false_iff, Bool.and_eq_false_iff] at hc2
                simp (disch := first | omega | decide) only [go_sem, f0, f1, opn_cond, hc, if_true, act_call, List.map]
                apply mwp_call_s rfl rfl rfl
                · intro Q hQ
                  simp (disch := first | omega | decide) only [go_sem, f0, f1, opn_cond, hc, if_true, peekL]
                  first | exact hQ | (rw [peek_own (by simp (disch := first | omega | decide) only [go_sem, f0, f1, peekL]; rfl)]; exact hQ) | (rw [peek_own (by simp (disch := first | omega | decide) only [go_sem, f0, f1, peekL]; rfl)]; simp (disch := first | omega | decide) only [go_sem, f0, f1, peekL]; rw [peek_own (by simp (disch := first | omega | decide) only [go_sem, f0, f1, peekL]; rfl)]; exact hQ) | (rw [peek_own (by simp (disch := first | omega | decide) only [go_sem, f0, f1, peekL]; rfl)]; simp (disch := first | omega | decide) only [go_sem, f0, f1, peekL]; exact hQ)
                · exact good_awake
                · simp [-List.map_take, -List.map_drop, noPtrL, noPtr, noPtrL_bsl, noPtrL_map, sub]
                · rfl
                · exact hK _
              iterate 2 (apply aops_step (by decide) rfl; · (intro K hK; simp (disch := first | omega | decide) only [go_sem, f0, f1]; exact hK _))
              refine aops_nil ?_
              refine AW.ret ?_
              refine ⟨.inr rfl, ?_⟩
              refine leaves_tmp1 4 rfl ?_ (by first | rfl | exact hG)
              simp (disch := first | omega | decide) only [go_sem, f0, f1]
              clear hr hv hG f0 f1
              all_goals first | done | (cases hm : mayS x u <;> first | grind [aN, aU, aE, aBad, tV, tN, tU, tE, wV, wE, gN, gU, gE, gBad, rW] | trace_state)
            case hf =>
              intro hb
              try simp only [Bool.or_eq_true, Bool.and_eq_true, Bool.or_eq_false_iff, Bool.and_eq_false_iff, decide_eq_true_eq, decide_eq_false_iff_not] at hb
              have hbt170 := hb
              refine AW.skip ?_
              refine AW.seq ?_
              refine AW.region (cfg := cfg) ?_
              iterate 3 (apply aops_step (by decide) rfl; · (intro K hK; simp (disch := first | omega | decide) only [go_sem, f0, f1]; exact hK _))
              apply aops_merge' (by decide) (by first | exact want_of (d := 183) rfl (by simp (disch := first | omega | decide) only [go_sem, f0, f1, opn_cond]; rfl) | exact want_of_cond (d := 183) rfl (by simp (disch := first | omega | decide) only [go_sem, f0, f1, opn_cond]; rfl))
              · intro hc K hK
                have hc2 := hc
                simp only [beq_iff_eq, decide_eq_true_eq, decide_eq_false_iff_not, Bool.or_eq_true, Bool.and_eq_true, Bool.or_eq_false_iff, Bool.and_eq_false_iff] at hc2
                simp (disch := first | omega | decide) only [go_sem, f0, f1, opn_cond, hc, if_true, act_load_t ti56]
                first | rw [mwp_load_bs (by simp (disch := first | omega | decide) only [go_sem, f0, f1, opn_cond, hc, if_true]; rfl) (by simp)] | rw [mwp_load_b1 (by simp (disch := first | omega | decide) only [go_sem, f0, f1, opn_cond, hc, if_true]; rfl) (by rfl)] | rw [mwp_aLoad_map (by simp (disch := first | omega | decide) only [go_sem, f0, f1, opn_cond, hc, if_true]; rfl) (by first | omega | (simp; omega)) (fun _ => rfl)] | rw [mwp_aLoad_e1 (by simp (disch := first | omega | decide) only [go_sem, f0, f1, opn_cond, hc, if_true]; rfl) (by simp) rfl] | skip
                exact hK _
              apply aops_merge' (by decide) (by first | exact want_of (d := 183) rfl (by simp (disch := first | omega | decide) only [go_sem, f0, f1, opn_cond]; rfl) | exact want_of_cond (d := 183) rfl (by simp (disch := first | omega | decide) only [go_sem, f0, f1, opn_cond]; rfl))
              · intro hc K hK
                have hc2 := hc
                simp only [beq_iff_eq, decide_eq_true_eq, decide_eq_false_iff_not, Bool.or_eq_true, Bool.and_eq_true, Bool.or_eq_false_iff, Bool.and_eq_false_iff] at hc2
                simp (disch := first | omega | decide) only [go_sem, f0, f1, opn_cond, hc, if_true, act_fieldAddr_t fo56_0]
                first | rw [mwp_fieldAddr_b (by simp (disch := first | omega | decide) only [go_sem, f0, f1, opn_cond, hc, if_true]; rfl)] | skip
                exact hK _
              apply aops_merge' (by decide) (by first | exact want_of (d := 183) rfl (by simp (disch := first | omega | decide) only [go_sem, f0, f1, opn_cond]; rfl) | exact want_of_cond (d := 183) rfl (by simp (disch := first | omega | decide) only [go_sem, f0, f1, opn_cond]; rfl))
              · intro hc K hK
                have hc2 := hc
                simp only [beq_iff_eq, decide_eq_true_eq, decide_eq_false_iff_not, Bool.or_eq_true, Bool.and_eq_true, Bool.or_eq_false_iff, Bool.and_eq_false_iff] at hc2
                simp (disch := first | omega | decide) only [go_sem, f0, f1, opn_cond, hc, if_true, act_load_t ti3]
                first | rw [mwp_load_bs (by simp (disch := first | omega | decide) only [go_sem, f0, f1, opn_cond, hc, if_true]; rfl) (by simp)] | rw [mwp_load_b1 (by simp (disch := first | omega | decide) only [go_sem, f0, f1, opn_cond, hc, if_true]; rfl) (by rfl)] | rw [mwp_aLoad_map (by simp (disch := first | omega | decide) only [go_sem, f0, f1, opn_cond, hc, if_true]; rfl) (by first | omega | (simp; omega)) (fun _ => rfl)] | rw [mwp_aLoad_e1 (by simp (disch := first | omega | decide) only [go_sem, f0, f1, opn_cond, hc, if_true]; rfl) (by simp) rfl] | skip
                exact hK _
              apply aops_merge' (by decide) (by first | exact want_of (d := 183) rfl (by simp (disch := first | omega | decide) only [go_sem, f0, f1, opn_cond]; rfl) | exact want_of_cond (d := 183) rfl (by simp (disch := first | omega | decide) only [go_sem, f0, f1, opn_cond]; rfl))
              · intro hc K hK
                have hc2 := hc
                simp only [beq_iff_eq, decide_eq_true_eq, decide_eq_false_iff_not, Bool.or_eq_true, Bool.and_eq_true, Bool.or_eq_false_iff, Bool.and_eq_false_iff] at hc2
                simp (disch := first | omega | decide) only [go_sem, f0, f1, opn_cond, hc, if_true]
                exact hK _
              apply aops_merge' (by decide) (by first | exact want_of (d := 183) rfl (by simp (disch := first | omega | decide) only [go_sem, f0, f1, opn_cond]; rfl) | exact want_of_cond (d := 183) rfl (by simp (disch := first | omega | decide) only [go_sem, f0, f1, opn_cond]; rfl))
              · intro hc K hK
                have hc2 := hc
                simp only [beq_iff_eq, decide_eq_true_eq, decide_eq_false_iff_not, Bool.or_eq_true, Bool.and_eq_true, Bool.or_eq_false_iff, Bool.and_eq_false_iff] at hc2
                simp (disch := first | omega | decide) only [go_sem, f0, f1, opn_cond, hc, if_true, act_build_t ti56 pl56]
                simp [-List.map_take, -List.map_drop, fillL, okOne, cellishAV, Value.oneCell', cellsL, cellsOf, setAt, M.bind, Mwp]
                exact hK _
              apply aops_merge' (by decide) (by first | exact want_of (d := 183) rfl (by simp (disch := first | omega | decide) only [go_sem, f0, f1, opn_cond]; rfl) | exact want_of_cond (d := 183) rfl (by simp (disch := first | omega | decide) only [go_sem, f0, f1, opn_cond]; rfl))
              · intro hc K hK
                have hc2 := hc
                simp only [beq_iff_eq, decide_eq_true_eq, decide_eq_false_iff_not, Bool.or_eq_true, Bool.and_eq_true, Bool.or_eq_false_iff, Bool.and_eq_false_iff] at hc2
                simp (disch := first | omega | decide) only [go_sem, f0, f1, opn_cond, hc, if_true, bin_eql_s us56 fl56 eg56]
                exact hK _
              iterate 2 (apply aops_step (by decide) rfl; · (intro K hK; simp (disch := first | omega | decide) only [go_sem, f0, f1]; exact hK _))
              apply aops_merge' (by decide) (by first | exact want_of (d := 191) rfl (by simp (disch := first | omega | decide) only [go_sem, f0, f1, opn_cond]; rfl) | exact want_of_cond (d := 191) rfl (by simp (disch := first | omega | decide) only [go_sem, f0, f1, opn_cond]; rfl))
              · intro hc K hK
                have hc2 := hc
                simp only [beq_iff_eq, decide_eq_true_eq, decide_eq_false_iff_not, Bool.or_eq_true, Bool.and_eq_true, Bool.or_eq_false_iff, Bool.and_eq_false_iff] at hc2
                simp (disch := first | omega | decide) only [go_sem, f0, f1, opn_cond, hc, if_true, act_call, List.map]
                apply mwp_call_s rfl rfl rfl
                · intro Q hQ
                  simp (disch := first | omega | decide) only [go_sem, f0, f1, opn_cond, hc, if_true, peekL]
                  first | exact hQ | (rw [peek_own (by simp (disch := first | omega | decide) only [go_sem, f0, f1, peekL]; rfl)]; exact hQ) | (rw [peek_own (by simp (disch := first | omega | decide) only [go_sem, f0, f1, peekL]; rfl)]; simp (disch := first | omega | decide) only [go_sem, f0, f1, peekL]; rw [peek_own (by simp (disch := first | omega | decide) only [go_sem, f0, f1, peekL]; rfl)]; exact hQ) | (rw [peek_own (by simp (disch := first | omega | decide) only [go_sem, f0, f1, peekL]; rfl)]; simp (disch := first | omega | decide) only [go_sem, f0, f1, peekL]; exact hQ)
                · exact good_awake
                · simp [-List.map_take, -List.map_drop, noPtrL, noPtr, noPtrL_bsl, noPtrL_map, sub]
                · rfl
                · exact hK _
              iterate 2 (apply aops_step (by decide) rfl; · (intro K hK; simp (disch := first | omega | decide) only [go_sem, f0, f1]; exact hK _))
              refine aops_nil ?_
              refine AW.ret ?_
              refine ⟨.inr rfl, ?_⟩
              refine leaves_tmp1 4 rfl ?_ (by first | rfl | exact hG)
              simp (disch := first | omega | decide) only [go_sem, f0, f1]
              clear hr hv hG f0 f1
              all_goals first | done | (cases hm : mayS x u <;> first | grind [aN, aU, aE, aBad, tV, tN, tU, tE, wV, wE, gN, gU, gE, gBad, rW] | trace_state)

end Go.Vai.S
