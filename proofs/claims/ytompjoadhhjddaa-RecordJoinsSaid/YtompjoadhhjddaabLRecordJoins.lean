import Derived.Test.YtompjoadhhjddaabRec6
namespace Go.Vai.R
open Go.Proofs Go.Vai Go.Vai.G Go.Vai.L Go.Vai.O Go.Vai.U Go.Vai.Z
set_option linter.unusedSimpArgs false
set_option linter.unusedVariables false

theorem joinB_le {l : List Page} (h : ∀ x ∈ l, x.b.length ≤ 600) (hl : l.length ≤ 20) : (joinB l).length ≤ 12000 := by
  rw [joinB]
  split
  · rename_i e
    simp only [joinOK, Bool.and_eq_true] at e
    have := cat_le (l := l) (head_is e.1).2.2.2.1 h
    rw [jB]
    have h2 := (head_is e.1).2.2.2.1
    have h3 : 600 * jN l ≤ 600 * 20 := Nat.mul_le_mul_left _ (by omega)
    omega
  · simp
theorem joinN_ok (l : List Page) : decide (joinN l > 0) = joinOK l := by
  cases e : joinOK l with
  | false => rw [(join_f e).2.2]; rfl
  | true =>
    have e2 := e
    simp only [joinOK, Bool.and_eq_true] at e2
    have h2 := (head_is e2.1).2.2.2.2
    rw [(join_t e).2.2]
    exact decide_eq_true (by omega)
set_option maxHeartbeats 4000000 in
set_option maxRecDepth 100000 in
theorem good_RecordJoins (nil : Bool) (l : List Page) (hl : l.length ≤ 9223372036854775807) : Good Try.prog 7 [(.sl 7 nil (l.map pageA), false)] [] [(.b true, false)] [] := by
  refine good_of_body4 40 Try.func7 rfl rfl rfl (by simp) (by simp) (by simp [noPtrL, noPtr]) (by rfl) ?_
  intro s m ha hr hv hG
  have f0 : s 0 = .v (.sl 7 nil (l.map pageA)) := ha 0 _ rfl
  clear ha
  refine AW.seq ?_
  refine AW.region (cfg := cfg) ?_
  iterate 1 (apply aops_step (by decide) rfl; · (intro K hK; simp (disch := first | omega | decide) only [go_sem, f0, cellsOf_page, ne_eq, not_true_eq_false]; exact hK _))
  refine aops_nil ?_
  refine AW.seq ?_
  refine AW.seq ?_
  refine AW.region (cfg := cfg) ?_
  iterate 1 (apply aops_step (by decide) rfl; · (intro K hK; simp (disch := first | omega | decide) only [go_sem, f0, cellsOf_page, ne_eq, not_true_eq_false]; exact hK _))
  apply aops_step (by decide) rfl
  · intro K hK
    simp (disch := first | omega | decide) only [go_sem, f0, act_call, List.map, cellsOf_page, ne_eq, not_true_eq_false]
    apply mwp_call_s rfl rfl rfl
    · intro Q hQ
      (simp (disch := first | omega | decide) only [go_sem, f0, peekL, reifyL_nil, reifyL_cons, reify_v, cellsOf_page, ne_eq, not_true_eq_false]; (exact hQ))
    · exact good_light nil l (by omega)
    · simp [-List.map_take, -List.map_drop, -List.map_append, -List.map_replicate, -List.reduceReplicate, noPtrL, noPtr, noPtrL_bsl, noPtrL_map, sub]
    · rfl
    · exact hK _
  iterate 1 (apply aops_step (by decide) rfl; · (intro K hK; simp (disch := first | omega | decide) only [go_sem, f0, cellsOf_page, ne_eq, not_true_eq_false]; exact hK _))
  refine aops_nil ?_
  apply AW.cond
  · simp (disch := first | omega | decide) only [go_sem, f0, cellsOf_page, ne_eq, not_true_eq_false]; rfl
  case ht =>
    intro hb
    try simp only [Bool.or_eq_true, Bool.and_eq_true, Bool.or_eq_false_iff, Bool.and_eq_false_iff, decide_eq_true_eq, decide_eq_false_iff_not] at hb
    have hbt10 := hb
    refine AW.seq ?_
    refine AW.region (cfg := cfg) ?_
    apply aops_step (by decide) rfl
    · intro K hK
      simp (disch := first | omega | decide) only [go_sem, f0, act_call, List.map, cellsOf_page, ne_eq, not_true_eq_false]
      apply mwp_call_s rfl rfl rfl
      · intro Q hQ
        (simp (disch := first | omega | decide) only [go_sem, f0, peekL, reifyL_nil, reifyL_cons, reify_v, cellsOf_page, ne_eq, not_true_eq_false]; (exact hQ))
      · exact good_awake
      · simp [-List.map_take, -List.map_drop, -List.map_append, -List.map_replicate, -List.reduceReplicate, noPtrL, noPtr, noPtrL_bsl, noPtrL_map, sub]
      · rfl
      · exact hK _
    iterate 1 (apply aops_step (by decide) rfl; · (intro K hK; simp (disch := first | omega | decide) only [go_sem, f0, cellsOf_page, ne_eq, not_true_eq_false]; exact hK _))
    refine aops_nil ?_
    refine AW.ret ?_
    refine ⟨.inr rfl, ?_⟩
    apply Exists.intro
    refine leaves_tmp1 2 rfl ?_ (by rfl)
    simp (disch := first | omega | decide) only [go_sem, f0, cellsOf_page, ne_eq, not_true_eq_false]
    all_goals first | done | rfl | trace_state
  case hf =>
    intro hb
    try simp only [Bool.or_eq_true, Bool.and_eq_true, Bool.or_eq_false_iff, Bool.and_eq_false_iff, decide_eq_true_eq, decide_eq_false_iff_not] at hb
    have hbt10 := hb
    refine AW.skip ?_
    refine AW.seq ?_
    obtain ⟨lb1, lb2⟩ := light_bd (l := l) (by simpa using hbt10)
    have lb3 : ∀ x ∈ l, x.b.length ≤ 9223372036854775807 := fun x hx => by have := lb2 x hx; omega
    have jb := joinB_le lb2 lb1
    have jk := joinN_ok l
    refine AW.region (cfg := cfg) ?_
    iterate 1 (apply aops_step (by decide) rfl; · (intro K hK; simp (disch := first | omega | decide) only [go_sem, f0, jk, cellsOf_page, ne_eq, not_true_eq_false]; exact hK _))
    apply aops_step (by decide) rfl
    · intro K hK
      simp (disch := first | omega | decide) only [go_sem, f0, jk, act_call, List.map, cellsOf_page, ne_eq, not_true_eq_false]
      apply mwp_call_r rfl rfl rfl
      · intro Q hQ
        (simp (disch := first | omega | decide) only [go_sem, f0, jk, peekL, reifyL_nil, reifyL_cons, reify_v, cellsOf_page, ne_eq, not_true_eq_false]; (exact hQ))
      · exact good_Join nil l (by omega) lb3
      · simp [-List.map_take, -List.map_drop, -List.map_append, -List.map_replicate, -List.reduceReplicate, noPtrL, noPtr, noPtrL_bsl, noPtrL_map, sub]
      · simp (disch := first | omega | decide) only [go_sem, f0, jk, cellsOf_page, ne_eq, not_true_eq_false]
        exact hK _
    iterate 7 (apply aops_step (by decide) rfl; · (intro K hK; simp (disch := first | omega | decide) only [go_sem, f0, jk, cellsOf_page, ne_eq, not_true_eq_false]; exact hK _))
    refine aops_nil ?_
    refine AW.seq ?_
    refine AW.region (cfg := cfg) ?_
    iterate 1 (apply aops_step (by decide) rfl; · (intro K hK; simp (disch := first | omega | decide) only [go_sem, f0, jk, cellsOf_page, ne_eq, not_true_eq_false]; exact hK _))
    apply aops_step (by decide) rfl
    · intro K hK
      simp (disch := first | omega | decide) only [go_sem, f0, jk, act_call, List.map, cellsOf_page, ne_eq, not_true_eq_false]
      apply mwp_call_r rfl rfl rfl
      · intro Q hQ
        (simp (disch := first | omega | decide) only [go_sem, f0, jk, peekL, reifyL_nil, reifyL_cons, reify_v, cellsOf_page, ne_eq, not_true_eq_false]; (exact hQ))
      · exact good_refJoin nil l lb1 lb2
      · simp [-List.map_take, -List.map_drop, -List.map_append, -List.map_replicate, -List.reduceReplicate, noPtrL, noPtr, noPtrL_bsl, noPtrL_map, sub]
      · simp (disch := first | omega | decide) only [go_sem, f0, jk, cellsOf_page, ne_eq, not_true_eq_false]
        exact hK _
    iterate 5 (apply aops_step (by decide) rfl; · (intro K hK; simp (disch := first | omega | decide) only [go_sem, f0, jk, cellsOf_page, ne_eq, not_true_eq_false]; exact hK _))
    refine aops_nil ?_
    refine AW.seq ?_
    refine AW.region (cfg := cfg) ?_
    iterate 2 (apply aops_step (by decide) rfl; · (intro K hK; simp (disch := first | omega | decide) only [go_sem, f0, jk, cellsOf_page, ne_eq, not_true_eq_false]; exact hK _))
    apply aops_step (by decide) rfl
    · intro K hK
      simp (disch := first | omega | decide) only [go_sem, f0, jk, act_call, List.map, cellsOf_page, ne_eq, not_true_eq_false]
      apply mwp_call_s rfl rfl rfl
      · intro Q hQ
        (simp (disch := first | omega | decide) only [go_sem, f0, jk, peekL, reifyL_nil, reifyL_cons, reify_v, cellsOf_page, ne_eq, not_true_eq_false]; (exact hQ))
      · exact O.good_Same (joinB l).isEmpty (!joinOK l) (joinB l) (joinB l) (by omega) (by omega)
      · simp [-List.map_take, -List.map_drop, -List.map_append, -List.map_replicate, -List.reduceReplicate, noPtrL, noPtr, noPtrL_bsl, noPtrL_map, sub]
      · rfl
      · exact hK _
    iterate 12 (apply aops_step (by decide) rfl; · (intro K hK; simp (disch := first | omega | decide) only [go_sem, f0, jk, bin_eql_b u4, cellsOf_page, ne_eq, not_true_eq_false]; exact hK _))
    apply aops_step (by decide) rfl
    · intro K hK
      simp (disch := first | omega | decide) only [go_sem, f0, jk, act_call, List.map, cellsOf_page, ne_eq, not_true_eq_false]
      apply mwp_call_s rfl rfl rfl
      · intro Q hQ
        (simp (disch := first | omega | decide) only [go_sem, f0, jk, peekL, reifyL_nil, reifyL_cons, reify_v, cellsOf_page, ne_eq, not_true_eq_false]; (exact hQ))
      · exact good_awake
      · simp [-List.map_take, -List.map_drop, -List.map_append, -List.map_replicate, -List.reduceReplicate, noPtrL, noPtr, noPtrL_bsl, noPtrL_map, sub]
      · rfl
      · exact hK _
    iterate 2 (apply aops_step (by decide) rfl; · (intro K hK; simp (disch := first | omega | decide) only [go_sem, f0, jk, cellsOf_page, ne_eq, not_true_eq_false]; exact hK _))
    refine aops_nil ?_
    refine AW.ret ?_
    refine ⟨.inr rfl, ?_⟩
    apply Exists.intro
    refine leaves_tmp1 2 rfl ?_ (by rfl)
    simp (disch := first | omega | decide) only [go_sem, f0, jk, cellsOf_page, ne_eq, not_true_eq_false]
    all_goals first | done | rfl | trace_state

end Go.Vai.R
