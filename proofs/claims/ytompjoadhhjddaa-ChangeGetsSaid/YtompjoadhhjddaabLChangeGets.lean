import Derived.Test.YtompjoadhhjddaabCh8
namespace Go.Vai.C
open Go.Proofs Go.Vai Go.Vai.G Go.Vai.L Go.Vai.O
set_option linter.unusedSimpArgs false
set_option linter.unusedVariables false

set_option maxHeartbeats 4000000 in
set_option maxRecDepth 100000 in
theorem good_ChangeGets (nil : Bool) (l : List (BitVec 8)) (hl : l.length ≤ 9223372036854775807) (hz : nil = true → l = []) : Good Try.prog 9 [(.sl 1 nil (bsl l), false)] [] [(.b true, false)] [] := by
  refine good_of_body4 42 Try.func9 rfl rfl rfl (by simp) (by simp) (by simp [noPtrL, noPtr]) (by rfl) ?_
  intro s m ha hr hv hG
  have f0 : s 0 = .v (.sl 1 nil (bsl l)) := ha 0 _ rfl
  clear ha
  refine AW.seq ?_
  refine AW.region (cfg := cfg) ?_
  iterate 1 (apply aops_step (by decide) rfl; · (intro K hK; simp (disch := first | omega | decide) only [go_sem, f0, cellsOf_ch, cellsOf_lsa, ne_eq, not_true_eq_false, eqAll_refl]; exact hK _))
  refine aops_nil ?_
  refine AW.seq ?_
  refine AW.seq ?_
  refine AW.region (cfg := cfg) ?_
  iterate 3 (apply aops_step (by decide) rfl; · (intro K hK; simp (disch := first | omega | decide) only [go_sem, f0, List.map, List.length_map, aops_len u25, cellsOf_ch, cellsOf_lsa, ne_eq, not_true_eq_false, eqAll_refl]; exact hK _))
  refine aops_nil ?_
  apply AW.cond
  · simp (disch := first | omega | decide) only [go_sem, f0, cellsOf_ch, cellsOf_lsa, ne_eq, not_true_eq_false, eqAll_refl]; rfl
  case ht =>
    intro hb
    try simp only [Bool.or_eq_true, Bool.and_eq_true, Bool.or_eq_false_iff, Bool.and_eq_false_iff, decide_eq_true_eq, decide_eq_false_iff_not] at hb
    have hbt9 := hb
    refine AW.seq ?_
    refine AW.region (cfg := cfg) ?_
    apply aops_step (by decide) rfl
    · intro K hK
      simp (disch := first | omega | decide) only [go_sem, f0, act_call, List.map, cellsOf_ch, cellsOf_lsa, ne_eq, not_true_eq_false, eqAll_refl]
      apply mwp_call_s rfl rfl rfl
      · intro Q hQ
        (simp (disch := first | omega | decide) only [go_sem, f0, peekL, reifyL_nil, reifyL_cons, reify_v, cellsOf_ch, cellsOf_lsa, ne_eq, not_true_eq_false, eqAll_refl]; (exact hQ))
      · exact good_awake
      · simp [-List.map_take, -List.map_drop, -List.map_append, -List.map_replicate, -List.reduceReplicate, noPtrL, noPtr, noPtrL_bsl, noPtrL_map, sub]
      · rfl
      · exact hK _
    iterate 1 (apply aops_step (by decide) rfl; · (intro K hK; simp (disch := first | omega | decide) only [go_sem, f0, cellsOf_ch, cellsOf_lsa, ne_eq, not_true_eq_false, eqAll_refl]; exact hK _))
    refine aops_nil ?_
    refine AW.ret ?_
    refine ⟨.inr rfl, ?_⟩
    apply Exists.intro
    refine leaves_tmp1 2 rfl ?_ (by rfl)
    simp (disch := first | omega | decide) only [go_sem, f0, cellsOf_ch, cellsOf_lsa, ne_eq, not_true_eq_false, eqAll_refl]
    all_goals first | done | rfl | trace_state
  case hf =>
    intro hb
    try simp only [Bool.or_eq_true, Bool.and_eq_true, Bool.or_eq_false_iff, Bool.and_eq_false_iff, decide_eq_true_eq, decide_eq_false_iff_not] at hb
    have hbt9 := hb
    refine AW.skip ?_
    refine AW.seq ?_
    refine AW.region (cfg := cfg) ?_
    apply aops_step (by decide) rfl
    · intro K hK
      rw [act_bs el25 ti5]
      (simp [-List.map_take, -List.map_drop, -BitVec.toNat_ofInt, -BitVec.ofInt_natCast, -BitVec.toNat_setWidth, -BitVec.toNat_ushiftRight, -BitVec.toNat_umod, -BitVec.toNat_udiv, go_sem, elems_v, cellishAV, Value.oneCell', isAggAV, partsOf, TI.z, TI.mk1, f0]; exact hK _)
    iterate 1 (apply aops_step (by decide) rfl; · (intro K hK; simp (disch := first | omega | decide) only [go_sem, f0, cellsOf_ch, cellsOf_lsa, ne_eq, not_true_eq_false, eqAll_refl]; exact hK _))
    apply aops_step (by decide) rfl
    · intro K hK
      simp (disch := first | omega | decide) only [go_sem, f0, List.map, cellsOf_ch, cellsOf_lsa, ne_eq, not_true_eq_false, eqAll_refl]
      apply mwp_append2 el25 ti5 u25
      case hpk => intro Q hQ; exact hQ
      case hs' => rfl
      case ho => simp (disch := first | omega | decide) only [go_sem, f0, cellsOf_ch, cellsOf_lsa, ne_eq, not_true_eq_false, eqAll_refl]; rfl
      case hsz => rfl
      case hhi => (simp; done)
      case hb => (simp only [List.length_cons, List.length_nil, List.length_map, Nat.zero_add, Nat.reduceAdd, roomB]; omega)
      case hy => (simp [sub, cellsOf]; done)
      case k => (try simp only [List.nil_append, ← List.map_append, Bool.false_and]); exact hK _
    apply aops_step (by decide) rfl
    · intro K hK
      simp (disch := first | omega | decide) only [go_sem, f0, act_call, List.map, cellsOf_ch, cellsOf_lsa, ne_eq, not_true_eq_false, eqAll_refl]
      apply mwp_call_r rfl rfl rfl
      · intro Q hQ
        (simp (disch := first | omega | decide) only [go_sem, f0, peekL, reifyL_nil, reifyL_cons, reify_v, cellsOf_ch, cellsOf_lsa, ne_eq, not_true_eq_false, eqAll_refl]; ((((rw [mwp_reify_own (by simp (disch := first | omega | decide) only [go_sem, f0, peekL, reifyL_nil, reifyL_cons, reify_v, cellsOf_ch, cellsOf_lsa, ne_eq, not_true_eq_false, eqAll_refl]; rfl)]); (try rw [sub_full (by (simp; done))])); exact hQ)))
      · exact good_GetC false l (by omega) (by simp)
      · simp [-List.map_take, -List.map_drop, -List.map_append, -List.map_replicate, -List.reduceReplicate, noPtrL, noPtr, noPtrL_bsl, noPtrL_map, sub]
      · simp (disch := first | omega | decide) only [go_sem, f0, cellsOf_ch, cellsOf_lsa, ne_eq, not_true_eq_false, eqAll_refl]
        exact hK _
    iterate 5 (apply aops_step (by decide) rfl; · (intro K hK; simp (disch := first | omega | decide) only [go_sem, f0, cellsOf_ch, cellsOf_lsa, ne_eq, not_true_eq_false, eqAll_refl]; exact hK _))
    refine aops_nil ?_
    refine AW.seq ?_
    rcases get_way l with hg | ⟨xs, hg⟩
    · skip
      obtain ⟨e1, e2, e3⟩ := opt_no hg
      obtain ⟨_, _, e4⟩ := opt_no2 rfl hg
      have hxs : ∀ c ∈ ([] : List Ch), c.l.ls.length ≤ 9223372036854775807 := all_small rfl
      have hx4 := eqAll_refl (l := [])
      have hx3 : ([] : List Ch).length ≤ 40 := by simp
      refine AW.region (cfg := cfg) ?_
      iterate 1 (apply aops_step (by decide) rfl; · (intro K hK; simp (disch := first | omega | decide) only [go_sem, f0, e1, e2, e3, e4, hx4, cellsOf_ch, cellsOf_lsa, ne_eq, not_true_eq_false, eqAll_refl]; exact hK _))
      apply aops_step (by decide) rfl
      · intro K hK
        simp (disch := first | omega | decide) only [go_sem, f0, e1, e2, e3, e4, hx4, act_call, List.map, cellsOf_ch, cellsOf_lsa, ne_eq, not_true_eq_false, eqAll_refl]
        apply mwp_call_r rfl rfl rfl
        · intro Q hQ
          (simp (disch := first | omega | decide) only [go_sem, f0, e1, e2, e3, e4, hx4, peekL, reifyL_nil, reifyL_cons, reify_v, cellsOf_ch, cellsOf_lsa, ne_eq, not_true_eq_false, eqAll_refl]; (exact hQ))
        · exact good_refGetC nil l (by omega)
        · simp [-List.map_take, -List.map_drop, -List.map_append, -List.map_replicate, -List.reduceReplicate, noPtrL, noPtr, noPtrL_bsl, noPtrL_map, sub]
        · simp (disch := first | omega | decide) only [go_sem, f0, e1, e2, e3, e4, hx4, cellsOf_ch, cellsOf_lsa, ne_eq, not_true_eq_false, eqAll_refl]
          exact hK _
      iterate 5 (apply aops_step (by decide) rfl; · (intro K hK; simp (disch := first | omega | decide) only [go_sem, f0, e1, e2, e3, e4, hx4, cellsOf_ch, cellsOf_lsa, ne_eq, not_true_eq_false, eqAll_refl]; exact hK _))
      refine aops_nil ?_
      refine AW.seq ?_
      refine AW.region (cfg := cfg) ?_
      iterate 2 (apply aops_step (by decide) rfl; · (intro K hK; simp (disch := first | omega | decide) only [go_sem, f0, e1, e2, e3, e4, hx4, cellsOf_ch, cellsOf_lsa, ne_eq, not_true_eq_false, eqAll_refl]; exact hK _))
      apply aops_step (by decide) rfl
      · intro K hK
        simp (disch := first | omega | decide) only [go_sem, f0, e1, e2, e3, e4, hx4, act_call, List.map, cellsOf_ch, cellsOf_lsa, ne_eq, not_true_eq_false, eqAll_refl]
        apply mwp_call_s rfl rfl rfl
        · intro Q hQ
          (simp (disch := first | omega | decide) only [go_sem, f0, e1, e2, e3, e4, hx4, peekL, reifyL_nil, reifyL_cons, reify_v, cellsOf_ch, cellsOf_lsa, ne_eq, not_true_eq_false, eqAll_refl]; (exact hQ))
        · exact good_ListsC _ _ _ _ (by omega) (by omega) hxs hxs
        · simp [-List.map_take, -List.map_drop, -List.map_append, -List.map_replicate, -List.reduceReplicate, noPtrL, noPtr, noPtrL_bsl, noPtrL_map, sub]
        · rfl
        · exact hK _
      iterate 14 (apply aops_step (by decide) rfl; · (intro K hK; simp (disch := first | omega | decide) only [go_sem, f0, e1, e2, e3, e4, hx4, bin_eql_b u4, cellsOf_ch, cellsOf_lsa, ne_eq, not_true_eq_false, eqAll_refl]; exact hK _))
      apply aops_step (by decide) rfl
      · intro K hK
        simp (disch := first | omega | decide) only [go_sem, f0, e1, e2, e3, e4, hx4, act_call, List.map, cellsOf_ch, cellsOf_lsa, ne_eq, not_true_eq_false, eqAll_refl]
        apply mwp_call_s rfl rfl rfl
        · intro Q hQ
          (simp (disch := first | omega | decide) only [go_sem, f0, e1, e2, e3, e4, hx4, peekL, reifyL_nil, reifyL_cons, reify_v, cellsOf_ch, cellsOf_lsa, ne_eq, not_true_eq_false, eqAll_refl]; (exact hQ))
        · exact good_awake
        · simp [-List.map_take, -List.map_drop, -List.map_append, -List.map_replicate, -List.reduceReplicate, noPtrL, noPtr, noPtrL_bsl, noPtrL_map, sub]
        · rfl
        · exact hK _
      iterate 2 (apply aops_step (by decide) rfl; · (intro K hK; simp (disch := first | omega | decide) only [go_sem, f0, e1, e2, e3, e4, hx4, cellsOf_ch, cellsOf_lsa, ne_eq, not_true_eq_false, eqAll_refl]; exact hK _))
      refine aops_nil ?_
      refine AW.ret ?_
      refine ⟨.inr rfl, ?_⟩
      apply Exists.intro
      refine leaves_tmp1 2 rfl ?_ (by rfl)
      simp (disch := first | omega | decide) only [go_sem, f0, e1, e2, e3, e4, hx4, cellsOf_ch, cellsOf_lsa, ne_eq, not_true_eq_false, eqAll_refl]
      all_goals rfl
    · skip
      obtain ⟨e1, e2, e3⟩ := opt_yes hg
      obtain ⟨_, _, e4⟩ := opt_yes2 rfl hg
      obtain ⟨g1, g2, g3⟩ := chGet_cons hg
      have hx3 := (many_bd g3).2
      have hxs := all_small g2
      have hx4 := eqAll_refl (l := xs)
      refine AW.region (cfg := cfg) ?_
      iterate 1 (apply aops_step (by decide) rfl; · (intro K hK; simp (disch := first | omega | decide) only [go_sem, f0, e1, e2, e3, e4, hx4, cellsOf_ch, cellsOf_lsa, ne_eq, not_true_eq_false, eqAll_refl]; exact hK _))
      apply aops_step (by decide) rfl
      · intro K hK
        simp (disch := first | omega | decide) only [go_sem, f0, e1, e2, e3, e4, hx4, act_call, List.map, cellsOf_ch, cellsOf_lsa, ne_eq, not_true_eq_false, eqAll_refl]
        apply mwp_call_r rfl rfl rfl
        · intro Q hQ
          (simp (disch := first | omega | decide) only [go_sem, f0, e1, e2, e3, e4, hx4, peekL, reifyL_nil, reifyL_cons, reify_v, cellsOf_ch, cellsOf_lsa, ne_eq, not_true_eq_false, eqAll_refl]; (exact hQ))
        · exact good_refGetC nil l (by omega)
        · simp [-List.map_take, -List.map_drop, -List.map_append, -List.map_replicate, -List.reduceReplicate, noPtrL, noPtr, noPtrL_bsl, noPtrL_map, sub]
        · simp (disch := first | omega | decide) only [go_sem, f0, e1, e2, e3, e4, hx4, cellsOf_ch, cellsOf_lsa, ne_eq, not_true_eq_false, eqAll_refl]
          exact hK _
      iterate 5 (apply aops_step (by decide) rfl; · (intro K hK; simp (disch := first | omega | decide) only [go_sem, f0, e1, e2, e3, e4, hx4, cellsOf_ch, cellsOf_lsa, ne_eq, not_true_eq_false, eqAll_refl]; exact hK _))
      refine aops_nil ?_
      refine AW.seq ?_
      refine AW.region (cfg := cfg) ?_
      iterate 2 (apply aops_step (by decide) rfl; · (intro K hK; simp (disch := first | omega | decide) only [go_sem, f0, e1, e2, e3, e4, hx4, cellsOf_ch, cellsOf_lsa, ne_eq, not_true_eq_false, eqAll_refl]; exact hK _))
      apply aops_step (by decide) rfl
      · intro K hK
        simp (disch := first | omega | decide) only [go_sem, f0, e1, e2, e3, e4, hx4, act_call, List.map, cellsOf_ch, cellsOf_lsa, ne_eq, not_true_eq_false, eqAll_refl]
        apply mwp_call_s rfl rfl rfl
        · intro Q hQ
          (simp (disch := first | omega | decide) only [go_sem, f0, e1, e2, e3, e4, hx4, peekL, reifyL_nil, reifyL_cons, reify_v, cellsOf_ch, cellsOf_lsa, ne_eq, not_true_eq_false, eqAll_refl]; (exact hQ))
        · exact good_ListsC _ _ _ _ (by omega) (by omega) hxs hxs
        · simp [-List.map_take, -List.map_drop, -List.map_append, -List.map_replicate, -List.reduceReplicate, noPtrL, noPtr, noPtrL_bsl, noPtrL_map, sub]
        · rfl
        · exact hK _
      iterate 14 (apply aops_step (by decide) rfl; · (intro K hK; simp (disch := first | omega | decide) only [go_sem, f0, e1, e2, e3, e4, hx4, bin_eql_b u4, cellsOf_ch, cellsOf_lsa, ne_eq, not_true_eq_false, eqAll_refl]; exact hK _))
      apply aops_step (by decide) rfl
      · intro K hK
        simp (disch := first | omega | decide) only [go_sem, f0, e1, e2, e3, e4, hx4, act_call, List.map, cellsOf_ch, cellsOf_lsa, ne_eq, not_true_eq_false, eqAll_refl]
        apply mwp_call_s rfl rfl rfl
        · intro Q hQ
          (simp (disch := first | omega | decide) only [go_sem, f0, e1, e2, e3, e4, hx4, peekL, reifyL_nil, reifyL_cons, reify_v, cellsOf_ch, cellsOf_lsa, ne_eq, not_true_eq_false, eqAll_refl]; (exact hQ))
        · exact good_awake
        · simp [-List.map_take, -List.map_drop, -List.map_append, -List.map_replicate, -List.reduceReplicate, noPtrL, noPtr, noPtrL_bsl, noPtrL_map, sub]
        · rfl
        · exact hK _
      iterate 2 (apply aops_step (by decide) rfl; · (intro K hK; simp (disch := first | omega | decide) only [go_sem, f0, e1, e2, e3, e4, hx4, cellsOf_ch, cellsOf_lsa, ne_eq, not_true_eq_false, eqAll_refl]; exact hK _))
      refine aops_nil ?_
      refine AW.ret ?_
      refine ⟨.inr rfl, ?_⟩
      apply Exists.intro
      refine leaves_tmp1 2 rfl ?_ (by rfl)
      simp (disch := first | omega | decide) only [go_sem, f0, e1, e2, e3, e4, hx4, cellsOf_ch, cellsOf_lsa, ne_eq, not_true_eq_false, eqAll_refl]
      all_goals rfl

end Go.Vai.C
