import Derived.Test.YtpmgmlbpbnefeaahTab6
namespace Go.Vai.T
open Go.Proofs Go.Vai
set_option linter.unusedSimpArgs false
set_option linter.unusedVariables false

theorem th_len {α : Type} (p : Nr → Bool) (t : Nr → α) (l : List Nr) : (thL p t l).length ≤ l.length := by
  rw [thL, List.length_map]; exact List.length_filter_le _ _
def x0 : Nr := ⟨3, 7, 1, 0, true, true, 0, false⟩
theorem x0_ok : bad x0 = false := by decide
theorem aw1 : thR fuP lkT [x0] = [⟨3, 7⟩] := by rw [thR_yes (by decide)]; rfl
theorem aw2 : thR heP hdT [x0] = [⟨3, 1⟩] := by rw [thR_yes (by decide)]; rfl
theorem aw3 : thR fuP ofP [x0] = [3] := by rw [thR_yes (by decide)]; rfl
set_option maxHeartbeats 4000000 in
set_option maxRecDepth 100000 in
theorem good_awakeT  : Good Try.prog 6 [] [] [(.b true, false)] [] := by
 refine good_of_body4 37 Try.func6 rfl rfl rfl (by simp) (by simp) (by simp [noPtrL, noPtr]) (by rfl) ?_
 intro s m ha hr hv hG
 clear ha
 refine AW.sr (cfg := cfg) ?_
 iterate 1 (apply aops_step (by decide) rfl; · (intro K hK; simp (disch := first | omega | decide) only [go_sem, List.length_cons, List.length_nil, List.isEmpty_cons, beq_self_eq_true, Bool.and_self]; exact hK _))
 refine aops_nil ?_
 refine AW.seq ?_
 have w1 := aw1
 have w2 := aw2
 have w3 := aw3
 refine AW.region (cfg := cfg) ?_
 apply aops_step (by decide) rfl
 ·intro K hK
  simp (disch := first | omega | decide) only [go_sem, w1, w2, w3, act_build_t ti36 pl36, List.map, List.length_cons, List.length_nil, List.isEmpty_cons, beq_self_eq_true, Bool.and_self]
  simp [-List.map_take, -List.map_drop, fillL, okOne, cellishAV, Value.oneCell', cellsL, cellsOf, setAt, M.bind, Mwp, mset_same, Obj.isArr]
  exact hK _
 apply aops_step (by decide) rfl
 ·intro K hK
  simp (disch := first | omega | decide) only [go_sem, w1, w2, w3, act_call, List.map, List.length_cons, List.length_nil, List.isEmpty_cons, beq_self_eq_true, Bool.and_self]
  apply mwp_call_r rfl rfl rfl
  ·intro Q hQ
   (simp (disch := first | omega | decide) only [go_sem, w1, w2, w3, peekL, reifyL_nil, reifyL_cons, reify_v, List.length_cons, List.length_nil, List.isEmpty_cons, beq_self_eq_true, Bool.and_self]; (exact hQ))
  ·exact (good_SetNil x0 x0_ok).nil0
  ·simp [-List.map_take, -List.map_drop, -List.map_append, -List.map_replicate, -List.reduceReplicate, noPtrL, noPtr, noPtrL_bsl, noPtrL_map, sub]
  ·simp (disch := first | omega | decide) only [go_sem, w1, w2, w3, List.length_cons, List.length_nil, List.isEmpty_cons, beq_self_eq_true, Bool.and_self]
   exact hK _
 iterate 5 (apply aops_step (by decide) rfl; · (intro K hK; simp (disch := first | omega | decide) only [go_sem, w1, w2, w3, List.length_cons, List.length_nil, List.isEmpty_cons, beq_self_eq_true, Bool.and_self]; exact hK _))
 refine aops_nil ?_
 refine AW.sr (cfg := cfg) ?_
 iterate 1 (apply aops_step (by decide) rfl; · (intro K hK; simp (disch := first | omega | decide) only [go_sem, w1, w2, w3, List.length_cons, List.length_nil, List.isEmpty_cons, beq_self_eq_true, Bool.and_self]; exact hK _))
 apply aops_step (by decide) rfl
 ·intro K hK
  simp (disch := first | omega | decide) only [go_sem, w1, w2, w3, act_call, List.map, List.length_cons, List.length_nil, List.isEmpty_cons, beq_self_eq_true, Bool.and_self]
  apply mwp_call_r rfl rfl rfl
  ·intro Q hQ
   (simp (disch := first | omega | decide) only [go_sem, w1, w2, w3, peekL, reifyL_nil, reifyL_cons, reify_v, List.length_cons, List.length_nil, List.isEmpty_cons, beq_self_eq_true, Bool.and_self]; (exact hQ))
  ·exact good_LinksT false [x0] (by simp)
  ·simp [-List.map_take, -List.map_drop, -List.map_append, -List.map_replicate, -List.reduceReplicate, noPtrL, noPtr, noPtrL_bsl, noPtrL_map, sub]
  ·simp (disch := first | omega | decide) only [go_sem, w1, w2, w3, List.length_cons, List.length_nil, List.isEmpty_cons, beq_self_eq_true, Bool.and_self]
   exact hK _
 iterate 1 (apply aops_step (by decide) rfl; · (intro K hK; simp (disch := first | omega | decide) only [go_sem, w1, w2, w3, List.length_cons, List.length_nil, List.isEmpty_cons, beq_self_eq_true, Bool.and_self]; exact hK _))
 refine aops_nil ?_
 refine AW.sr (cfg := cfg) ?_
 iterate 9 (apply aops_step (by decide) rfl; · (intro K hK; simp (disch := first | omega | decide) only [go_sem, w1, w2, w3, List.map, List.length_map, aops_len u28, List.length_cons, List.length_nil, List.isEmpty_cons, beq_self_eq_true, Bool.and_self]; exact hK _))
 apply aops_step (by decide) rfl
 ·intro K hK
  simp (disch := first | omega | decide) only [go_sem, w1, w2, w3, act_indexAddr_s u28 ti34, List.map, List.length_cons, List.length_nil, List.isEmpty_cons, beq_self_eq_true, Bool.and_self]
  skip
  exact hK _
 apply aops_step (by decide) rfl
 ·intro K hK
  simp (disch := first | omega | decide) only [go_sem, w1, w2, w3, act_load_t ti34, List.map, List.length_cons, List.length_nil, List.isEmpty_cons, beq_self_eq_true, Bool.and_self]
  rw [mwp_load_is (by simp)]
  exact hK _
 apply aops_step (by decide) rfl
 ·intro K hK
  simp (disch := first | omega | decide) only [go_sem, w1, w2, w3, act_build_t ti34 pl34, List.map, List.length_cons, List.length_nil, List.isEmpty_cons, beq_self_eq_true, Bool.and_self]
  simp [-List.map_take, -List.map_drop, fillL, okOne, cellishAV, Value.oneCell', cellsL, cellsOf, setAt, M.bind, Mwp, mset_same, Obj.isArr]
  exact hK _
 iterate 4 (apply aops_step (by decide) rfl; · (intro K hK; simp (disch := first | omega | decide) only [go_sem, w1, w2, w3, bin_eql_s us34 fl34 eg34, List.length_cons, List.length_nil, List.isEmpty_cons, beq_self_eq_true, Bool.and_self]; exact hK _))
 apply aops_step (by decide) rfl
 ·intro K hK
  simp (disch := first | omega | decide) only [go_sem, w1, w2, w3, act_call, List.map, List.length_cons, List.length_nil, List.isEmpty_cons, beq_self_eq_true, Bool.and_self]
  apply mwp_call_r rfl rfl rfl
  ·intro Q hQ
   (simp (disch := first | omega | decide) only [go_sem, w1, w2, w3, peekL, reifyL_nil, reifyL_cons, reify_v, List.length_cons, List.length_nil, List.isEmpty_cons, beq_self_eq_true, Bool.and_self]; (exact hQ))
  ·exact good_HeardT false [x0] (by simp)
  ·simp [-List.map_take, -List.map_drop, -List.map_append, -List.map_replicate, -List.reduceReplicate, noPtrL, noPtr, noPtrL_bsl, noPtrL_map, sub]
  ·simp (disch := first | omega | decide) only [go_sem, w1, w2, w3, List.length_cons, List.length_nil, List.isEmpty_cons, beq_self_eq_true, Bool.and_self]
   exact hK _
 iterate 5 (apply aops_step (by decide) rfl; · (intro K hK; simp (disch := first | omega | decide) only [go_sem, w1, w2, w3, List.map, List.length_map, aops_len u24, List.length_cons, List.length_nil, List.isEmpty_cons, beq_self_eq_true, Bool.and_self]; exact hK _))
 apply aops_step (by decide) rfl
 ·intro K hK
  simp (disch := first | omega | decide) only [go_sem, w1, w2, w3, act_call, List.map, List.length_cons, List.length_nil, List.isEmpty_cons, beq_self_eq_true, Bool.and_self]
  apply mwp_call_r rfl rfl rfl
  ·intro Q hQ
   (simp (disch := first | omega | decide) only [go_sem, w1, w2, w3, peekL, reifyL_nil, reifyL_cons, reify_v, List.length_cons, List.length_nil, List.isEmpty_cons, beq_self_eq_true, Bool.and_self]; (exact hQ))
  ·exact good_FullT false [x0] (by simp)
  ·simp [-List.map_take, -List.map_drop, -List.map_append, -List.map_replicate, -List.reduceReplicate, noPtrL, noPtr, noPtrL_bsl, noPtrL_map, sub]
  ·simp (disch := first | omega | decide) only [go_sem, w1, w2, w3, List.length_cons, List.length_nil, List.isEmpty_cons, beq_self_eq_true, Bool.and_self]
   exact hK _
 iterate 4 (apply aops_step (by decide) rfl; · (intro K hK; simp (disch := first | omega | decide) only [go_sem, w1, w2, w3, List.map, List.length_map, aops_len u26, List.length_cons, List.length_nil, List.isEmpty_cons, beq_self_eq_true, Bool.and_self]; exact hK _))
 refine aops_nil ?_
 refine AW.ret ?_
 refine ⟨.inr rfl, ?_⟩
 apply Exists.intro
 refine leaves_tmp1 0 rfl ?_ (by rfl)
 simp (disch := first | omega | decide) only [go_sem, w1, w2, w3, List.length_cons, List.length_nil, List.isEmpty_cons, beq_self_eq_true, Bool.and_self]
 all_goals rfl

end Go.Vai.T
