import Derived.Test.YtpmgmlbpbnefeaahTab3
namespace Go.Vai.T
open Go.Proofs Go.Vai
set_option linter.unusedSimpArgs false
set_option linter.unusedVariables false

theorem tabE_nil : tabE [] = 0 := by decide
set_option maxHeartbeats 4000000 in
set_option maxRecDepth 100000 in
theorem good_SetNil (x : Nr) (hx : bad x = false) : Good Try.prog 14 [(.sl 8 true [], false), (nrA x, false)] [] [(.sl 8 false [nrA x], false), (i64 0, false)] [] := by
 refine good_of_body2 42 Try.func14 rfl rfl rfl (by simp) ?_
 intro s m ha hr hv hG
 have f0 : s 0 = .v (.sl 8 true []) := ha 0 _ rfl
 have f1 : s 1 = .v (.agg [i64 x.of, i64 x.co, i64 x.bo, i64 x.ep, .b x.he, .b x.fu, i64 x.ag, .b x.go]) := ha 1 _ rfl
 clear ha
 refine AW.sr (cfg := cfg) ?_
 apply aops_step (by decide) rfl
 ·intro K hK
  simp (disch := first | omega | decide) only [go_sem, f0, f1, act_box_t ti36, List.map, List.length_nil, List.length_cons]
  rw [settleL_vish _ _ (by rfl)]
  simp (disch := first | omega | decide) only [go_sem, f0, f1, cellsL, List.map, List.length_cons, List.length_nil, Nat.reduceAdd, if_true]
  exact hK _
 iterate 2 (apply aops_step (by decide) rfl; · (intro K hK; simp (disch := first | omega | decide) only [go_sem, f0, f1, sz22, List.length_nil, List.length_cons]; exact hK _))
 refine aops_nil ?_
 refine AW.seq ?_
 refine AW.seq ?_
 have w1 := tabE_nil
 have w2 : chk x = 0 := by rw [chk, hx]; rfl
 refine AW.region (cfg := cfg) ?_
 iterate 1 (apply aops_step (by decide) rfl; · (intro K hK; simp (disch := first | omega | decide) only [go_sem, f0, f1, w1, w2, List.length_nil, List.length_cons]; exact hK _))
 apply aops_step (by decide) rfl
 ·intro K hK
  simp (disch := first | omega | decide) only [go_sem, f0, f1, w1, w2, act_call, List.map, List.length_nil, List.length_cons]
  apply mwp_call_s rfl rfl rfl
  ·intro Q hQ
   (simp (disch := first | omega | decide) only [go_sem, f0, f1, w1, w2, peekL, reifyL_nil, reifyL_cons, reify_v, List.length_nil, List.length_cons]; (exact hQ))
  ·exact good_CheckT true [] (by simp)
  ·simp [-List.map_take, -List.map_drop, -List.map_append, -List.map_replicate, -List.reduceReplicate, noPtrL, noPtr, noPtrL_bsl, noPtrL_map, sub]
  ·rfl
  ·exact hK _
 iterate 2 (apply aops_step (by decide) rfl; · (intro K hK; simp (disch := first | omega | decide) only [go_sem, f0, f1, w1, w2, List.length_nil, List.length_cons]; exact hK _))
 apply aops_step (by decide) rfl
 ·intro K hK
  simp (disch := first | omega | decide) only [go_sem, f0, f1, w1, w2, act_load_t ti36, List.map, List.length_nil, List.length_cons]
  rw [mwp_load_bs (by simp (disch := first | omega | decide) only [go_sem, f0, f1, w1, w2, List.length_nil, List.length_cons]; rfl) (by simp [setAt])]
  exact hK _
 apply aops_step (by decide) rfl
 ·intro K hK
  simp (disch := first | omega | decide) only [go_sem, f0, f1, w1, w2, act_call, List.map, List.length_nil, List.length_cons]
  apply mwp_call_s rfl rfl rfl
  ·intro Q hQ
   (simp (disch := first | omega | decide) only [go_sem, f0, f1, w1, w2, peekL, reifyL_nil, reifyL_cons, reify_v, List.length_nil, List.length_cons]; (exact hQ))
  ·exact good_chkN x
  ·simp [-List.map_take, -List.map_drop, -List.map_append, -List.map_replicate, -List.reduceReplicate, noPtrL, noPtr, noPtrL_bsl, noPtrL_map, sub]
  ·rfl
  ·exact hK _
 iterate 2 (apply aops_step (by decide) rfl; · (intro K hK; simp (disch := first | omega | decide) only [go_sem, f0, f1, w1, w2, List.length_nil, List.length_cons]; exact hK _))
 refine aops_nil ?_
 apply AW.cond
 ·(simp only [go_sem, f0, f1, w1, w2, List.length_nil, List.length_cons]; rfl)
 case ht => intro hb; (simp at hb; done)
 case hf =>
 intro hb
 have hbt16 := hb
 refine AW.skip ?_
 refine AW.sr (cfg := cfg) ?_
 iterate 1 (apply aops_step (by decide) rfl; · (intro K hK; simp (disch := first | omega | decide) only [go_sem, f0, f1, w1, w2, List.length_nil, List.length_cons]; exact hK _))
 apply aops_step (by decide) rfl
 ·intro K hK
  simp (disch := first | omega | decide) only [go_sem, f0, f1, w1, w2, act_call, List.map, List.length_nil, List.length_cons]
  apply mwp_call_r rfl rfl rfl
  ·intro Q hQ
   (simp (disch := first | omega | decide) only [go_sem, f0, f1, w1, w2, peekL, reifyL_nil, reifyL_cons, reify_v, List.length_nil, List.length_cons]; (exact hQ))
  ·exact good_CloneNil
  ·simp [-List.map_take, -List.map_drop, -List.map_append, -List.map_replicate, -List.reduceReplicate, noPtrL, noPtr, noPtrL_bsl, noPtrL_map, sub]
  ·rw [resOf_own1 (by (simp (disch := decide) only [mset_ne, hr]; done))]
   exact hK _
 apply aops_step (by decide) rfl
 ·intro K hK
  simp (disch := first | omega | decide) only [go_sem, f0, f1, w1, w2, List.length_nil, List.length_cons]
  rw [asg_tmp (by simp (disch := first | omega | decide) only [go_sem, f0, f1, w1, w2, List.length_nil, List.length_cons]; rfl)]
  exact hK _
 refine aops_nil ?_
 refine AW.sr (cfg := cfg) ?_
 iterate 1 (apply aops_step (by decide) rfl; · (intro K hK; simp (disch := first | omega | decide) only [go_sem, f0, f1, w1, w2, List.length_nil, List.length_cons]; exact hK _))
 refine aops_fl (by decide) (by decide) fo36_0 ti3 (by simp (disch := first | omega | decide) only [go_sem, f0, f1, w1, w2, List.length_nil, List.length_cons]; rfl) (by simp (disch := first | omega | decide) only [go_sem, f0, f1, w1, w2, List.length_nil, List.length_cons]; rfl) (by rfl) ?_
 apply aops_step (by decide) rfl
 ·intro K hK
  simp (disch := first | omega | decide) only [go_sem, f0, f1, w1, w2, act_call, List.map, List.length_nil, List.length_cons]
  apply mwp_call_r rfl rfl rfl
  ·intro Q hQ
   (simp (disch := first | omega | decide) only [go_sem, f0, f1, w1, w2, peekL, reifyL_nil, reifyL_cons, reify_v, List.length_nil, List.length_cons]; ((((rw [mwp_reify_own (by simp (disch := first | omega | decide) only [go_sem, f0, f1, w1, w2, peekL, reifyL_nil, reifyL_cons, reify_v, List.length_nil, List.length_cons]; rfl)]); (try rw [sub_full (by rfl)])); exact hQ)))
  ·exact good_findNil true x.of
  ·simp [-List.map_take, -List.map_drop, -List.map_append, -List.map_replicate, -List.reduceReplicate, noPtrL, noPtr, noPtrL_bsl, noPtrL_map, sub]
  ·simp (disch := first | omega | decide) only [go_sem, f0, f1, w1, w2, List.length_nil, List.length_cons]
   exact hK _
 iterate 5 (apply aops_step (by decide) rfl; · (intro K hK; simp (disch := first | omega | decide) only [go_sem, f0, f1, w1, w2, List.length_nil, List.length_cons]; exact hK _))
 refine aops_nil ?_
 refine AW.seq ?_
 refine AW.block ?_
 refine AW.sr (cfg := cfg) ?_
 iterate 2 (apply aops_step (by decide) rfl; · (intro K hK; simp (disch := first | omega | decide) only [go_sem, f0, f1, w1, w2, List.length_nil, List.length_cons]; exact hK _))
 refine aops_nil ?_
 apply AW.cond
 ·(simp only [go_sem, f0, f1, w1, w2, List.length_nil, List.length_cons]; rfl)
 case ht => intro hb; (simp at hb; done)
 case hf =>
 intro hb
 have hbt31 := hb
 refine AW.sr (cfg := cfg) ?_
 iterate 1 (apply aops_step (by decide) rfl; · (intro K hK; simp (disch := first | omega | decide) only [go_sem, f0, f1, w1, w2, List.length_nil, List.length_cons]; exact hK _))
 apply aops_step (by decide) rfl
 ·intro K hK
  simp (disch := first | omega | decide) only [go_sem, f0, f1, w1, w2, List.map, List.length_map, aops_len u22, List.length_nil, List.length_cons]
  ((rw [mwp_len_frz u22 (by simp (disch := first | omega | decide) only [go_sem, f0, f1, w1, w2, List.map, List.length_nil, List.length_cons]; rfl)]); (try rw [sub_full (by rfl)]); (try simp only [List.length_map]); exact hK _)
 iterate 2 (apply aops_step (by decide) rfl; · (intro K hK; simp (disch := first | omega | decide) only [go_sem, f0, f1, w1, w2, List.length_nil, List.length_cons]; exact hK _))
 refine aops_nil ?_
 apply AW.cond
 ·(simp only [go_sem, f0, f1, w1, w2, List.length_nil, List.length_cons]; rfl)
 case ht => intro hb; (simp at hb; done)
 case hf =>
 intro hb
 have hbt37 := hb
 refine AW.region (cfg := cfg) ?_
 iterate 2 (apply aops_step (by decide) rfl; · (intro K hK; simp (disch := first | omega | decide) only [go_sem, f0, f1, w1, w2, List.length_nil, List.length_cons]; exact hK _))
 apply aops_step (by decide) rfl
 ·intro K hK
  simp (disch := first | omega | decide) only [go_sem, f0, f1, w1, w2, act_load_t ti36, List.map, List.length_nil, List.length_cons]
  rw [mwp_load_bs (by simp (disch := first | omega | decide) only [go_sem, f0, f1, w1, w2, List.length_nil, List.length_cons]; rfl) (by simp [setAt])]
  exact hK _
 apply aops_step (by decide) rfl
 ·intro K hK
  rw [act_bs el22 ti36]
  (simp [-List.map_take, -List.map_drop, -BitVec.toNat_ofInt, -BitVec.ofInt_natCast, -BitVec.toNat_setWidth, -BitVec.toNat_ushiftRight, -BitVec.toNat_umod, -BitVec.toNat_udiv, go_sem, elems_v, cellishAV, Value.oneCell', isAggAV, partsOf, TI.z, TI.mk1, f0, f1, w1, w2]; exact hK _)
 apply aops_step (by decide) rfl
 ·intro K hK
  simp (disch := first | omega | decide) only [go_sem, f0, f1, w1, w2, act_call, List.map, List.length_nil, List.length_cons]
  apply mwp_call_r rfl rfl rfl
  ·intro Q hQ
   (simp (disch := first | omega | decide) only [go_sem, f0, f1, w1, w2, peekL, reifyL_nil, reifyL_cons, reify_v, List.length_nil, List.length_cons]; ((((rw [reify_frz (by simp (disch := first | omega | decide) only [go_sem, f0, f1, w1, w2, peekL, reifyL_nil, reifyL_cons, reify_v, List.length_nil, List.length_cons]; rfl)]); (try rw [sub_full (by rfl)])); (try simp (disch := first | omega | decide) only [go_sem, f0, f1, w1, w2, peekL, reifyL_nil, reifyL_cons, reify_v, List.length_nil, List.length_cons]); ((rw [mwp_reify_own (by simp only [go_sem, f0, f1, w1, w2, peekL, reifyL_nil, reifyL_cons, reify_v, List.length_nil, List.length_cons]; rfl)]); (try rw [sub_full (by rfl)])); exact hQ)))
  ·exact good_InsNil x
  ·simp [-List.map_take, -List.map_drop, -List.map_append, -List.map_replicate, -List.reduceReplicate, noPtrL, noPtr, noPtrL_bsl, noPtrL_map, sub]
  ·rw [resOf_own1 (by (simp (disch := decide) only [mset_ne, hr]; done))]
   exact hK _
 apply aops_step (by decide) rfl
 ·intro K hK
  simp (disch := first | omega | decide) only [go_sem, f0, f1, w1, w2, List.length_nil, List.length_cons]
  rw [asg_tmp (by simp (disch := first | omega | decide) only [go_sem, f0, f1, w1, w2, List.length_nil, List.length_cons]; rfl)]
  exact hK _
 refine aops_nil ?_
 refine AW.sr (cfg := cfg) ?_
 iterate 1 (apply aops_step (by decide) rfl; · (intro K hK; simp (disch := first | omega | decide) only [go_sem, f0, f1, w1, w2, List.length_nil, List.length_cons]; exact hK _))
 apply aops_step (by decide) rfl
 ·intro K hK
  simp (disch := first | omega | decide) only [go_sem, f0, f1, w1, w2, List.length_nil, List.length_cons]
  rw [asg_fz (by rfl) (by decide) (by simp (disch := first | omega | decide) only [go_sem, f0, f1, w1, w2, List.length_nil, List.length_cons] <;> rfl)]
  exact hK _
 iterate 1 (apply aops_step (by decide) rfl; · (intro K hK; simp (disch := first | omega | decide) only [go_sem, f0, f1, w1, w2, List.length_nil, List.length_cons]; exact hK _))
 refine aops_nil ?_
 refine AW.ret ?_
 refine ⟨.inr rfl, ?_⟩
 refine leaves_mwp2 (rs := [.tmp 4, .tmp 5]) rfl ?_
 simp (config := {failIfUnchanged := false}) [giveL, srcOne, rehome, freezeN, sub, upd, opn, aLoad, loadL, giveOne, reify, reifyL, readL, readOne, Mwp, M.bind, Mem.set, setAt, cellsL, hG, f0, f1, w1, w2]
 all_goals first | done | exact ⟨rfl, rfl⟩ | exact ⟨⟨rfl, rfl⟩, rfl⟩ | trace_state

set_option maxHeartbeats 4000000 in
set_option maxRecDepth 100000 in
theorem good_heardF (x : Nr) : Good Try.prog 26 [(nrA x, false)] [] [(.b x.he, false)] [] := by
 refine good_of_body2 5 Try.func26 rfl rfl rfl (by simp) ?_
 intro s m ha hr hv hG
 have f0 : s 0 = .v (.agg [i64 x.of, i64 x.co, i64 x.bo, i64 x.ep, .b x.he, .b x.fu, i64 x.ag, .b x.go]) := ha 0 _ rfl
 clear ha
 refine AW.sr (cfg := cfg) ?_
 apply aops_step (by decide) rfl
 ·intro K hK
  simp (disch := first | omega | decide) only [go_sem, f0, act_box_t ti36, List.map]
  rw [settleL_vish _ _ (by rfl)]
  simp (disch := first | omega | decide) only [go_sem, f0, cellsL, List.map, List.length_cons, List.length_nil, Nat.reduceAdd, if_true]
  exact hK _
 iterate 1 (apply aops_step (by decide) rfl; · (intro K hK; simp (disch := first | omega | decide) only [go_sem, f0]; exact hK _))
 refine aops_nil ?_
 refine AW.sr (cfg := cfg) ?_
 refine aops_fl (by decide) (by decide) fo36_4 ti4 (by simp only [go_sem, f0]; rfl) (by simp only [go_sem, f0]; rfl) (by rfl) ?_
 iterate 1 (apply aops_step (by decide) rfl; · (intro K hK; simp (disch := first | omega | decide) only [go_sem, f0]; exact hK _))
 refine aops_nil ?_
 refine AW.ret ?_
 refine ⟨.inr rfl, ?_⟩
 refine leaves_tmp1 2 rfl ?_ (by exact hG)
 simp (disch := first | omega | decide) only [go_sem, f0]
 all_goals first | done | rfl | trace_state

set_option maxHeartbeats 4000000 in
set_option maxRecDepth 100000 in
theorem good_fullF (x : Nr) : Good Try.prog 29 [(nrA x, false)] [] [(.b x.fu, false)] [] := by
 refine good_of_body2 5 Try.func29 rfl rfl rfl (by simp) ?_
 intro s m ha hr hv hG
 have f0 : s 0 = .v (.agg [i64 x.of, i64 x.co, i64 x.bo, i64 x.ep, .b x.he, .b x.fu, i64 x.ag, .b x.go]) := ha 0 _ rfl
 clear ha
 refine AW.sr (cfg := cfg) ?_
 apply aops_step (by decide) rfl
 ·intro K hK
  simp (disch := first | omega | decide) only [go_sem, f0, act_box_t ti36, List.map]
  rw [settleL_vish _ _ (by rfl)]
  simp (disch := first | omega | decide) only [go_sem, f0, cellsL, List.map, List.length_cons, List.length_nil, Nat.reduceAdd, if_true]
  exact hK _
 iterate 1 (apply aops_step (by decide) rfl; · (intro K hK; simp (disch := first | omega | decide) only [go_sem, f0]; exact hK _))
 refine aops_nil ?_
 refine AW.sr (cfg := cfg) ?_
 refine aops_fl (by decide) (by decide) fo36_5 ti4 (by simp only [go_sem, f0]; rfl) (by simp only [go_sem, f0]; rfl) (by rfl) ?_
 iterate 1 (apply aops_step (by decide) rfl; · (intro K hK; simp (disch := first | omega | decide) only [go_sem, f0]; exact hK _))
 refine aops_nil ?_
 refine AW.ret ?_
 refine ⟨.inr rfl, ?_⟩
 refine leaves_tmp1 2 rfl ?_ (by exact hG)
 simp (disch := first | omega | decide) only [go_sem, f0]
 all_goals first | done | rfl | trace_state

set_option maxHeartbeats 4000000 in
set_option maxRecDepth 100000 in
theorem good_ofF (x : Nr) : Good Try.prog 30 [(nrA x, false)] [] [(i64 x.of, false)] [] := by
 refine good_of_body2 5 Try.func30 rfl rfl rfl (by simp) ?_
 intro s m ha hr hv hG
 have f0 : s 0 = .v (.agg [i64 x.of, i64 x.co, i64 x.bo, i64 x.ep, .b x.he, .b x.fu, i64 x.ag, .b x.go]) := ha 0 _ rfl
 clear ha
 refine AW.sr (cfg := cfg) ?_
 apply aops_step (by decide) rfl
 ·intro K hK
  simp (disch := first | omega | decide) only [go_sem, f0, act_box_t ti36, List.map]
  rw [settleL_vish _ _ (by rfl)]
  simp (disch := first | omega | decide) only [go_sem, f0, cellsL, List.map, List.length_cons, List.length_nil, Nat.reduceAdd, if_true]
  exact hK _
 iterate 1 (apply aops_step (by decide) rfl; · (intro K hK; simp (disch := first | omega | decide) only [go_sem, f0]; exact hK _))
 refine aops_nil ?_
 refine AW.sr (cfg := cfg) ?_
 refine aops_fl (by decide) (by decide) fo36_0 ti3 (by simp only [go_sem, f0]; rfl) (by simp only [go_sem, f0]; rfl) (by rfl) ?_
 iterate 1 (apply aops_step (by decide) rfl; · (intro K hK; simp (disch := first | omega | decide) only [go_sem, f0]; exact hK _))
 refine aops_nil ?_
 refine AW.ret ?_
 refine ⟨.inr rfl, ?_⟩
 refine leaves_tmp1 2 rfl ?_ (by exact hG)
 simp (disch := first | omega | decide) only [go_sem, f0]
 all_goals first | done | rfl | trace_state

set_option maxHeartbeats 4000000 in
set_option maxRecDepth 100000 in
theorem good_heardT (x : Nr) : Good Try.prog 27 [(nrA x, false)] [] [(.agg [i64 x.of, i64 x.bo], false)] [] := by
 refine good_of_body2 8 Try.func27 rfl rfl rfl (by simp) ?_
 intro s m ha hr hv hG
 have f0 : s 0 = .v (.agg [i64 x.of, i64 x.co, i64 x.bo, i64 x.ep, .b x.he, .b x.fu, i64 x.ag, .b x.go]) := ha 0 _ rfl
 clear ha
 refine AW.sr (cfg := cfg) ?_
 apply aops_step (by decide) rfl
 ·intro K hK
  simp (disch := first | omega | decide) only [go_sem, f0, act_box_t ti36, List.map]
  rw [settleL_vish _ _ (by rfl)]
  simp (disch := first | omega | decide) only [go_sem, f0, cellsL, List.map, List.length_cons, List.length_nil, Nat.reduceAdd, if_true]
  exact hK _
 apply aops_step (by decide) rfl
 ·intro K hK
  simp (disch := first | omega | decide) only [go_sem, f0, act_alloc_t ti32, List.map]
  exact hK _
 refine aops_nil ?_
 refine AW.sr (cfg := cfg) ?_
 refine aops_fl (by decide) (by decide) fo36_0 ti3 (by simp (disch := first | omega | decide) only [go_sem, f0]; rfl) (by simp (disch := first | omega | decide) only [go_sem, f0]; rfl) (by rfl) ?_
 refine aops_fl (by decide) (by decide) fo36_2 ti3 (by simp (disch := first | omega | decide) only [go_sem, f0]; rfl) (by simp (disch := first | omega | decide) only [go_sem, f0]; rfl) (by rfl) ?_
 apply aops_step (by decide) rfl
 ·intro K hK
  simp (disch := first | omega | decide) only [go_sem, f0, act_build_t ti32 pl32, List.map]
  simp [-List.map_take, -List.map_drop, fillL, okOne, cellishAV, Value.oneCell', cellsL, cellsOf, setAt, M.bind, Mwp, mset_same, Obj.isArr]
  exact hK _
 apply aops_step0 rfl
 ·intro K hK
  simp (disch := first | omega | decide) only [go_sem, f0, act_store_t ti32, List.map]
  rw [mwp_store_c (by simp (disch := first | omega | decide) only [go_sem, f0]; rfl) (by rfl) (by rfl) (by rfl) (by simp)]
  try simp only [setAt, cellsL, cellsOf_agg, cellsOf_base, List.map_cons, List.map_nil, List.set_cons_zero, List.set_cons_succ, Nat.reduceAdd, Nat.zero_add, hG]
  exact hK _
 refine aops_nil ?_
 refine AW.ret ?_
 refine ⟨.inr rfl, ?_⟩
 refine leaves_mwp2 (rs := [.cell 2 32]) rfl ?_
 simp (config := {failIfUnchanged := false}) [giveL, srcOne, rehome, freezeN, sub, ti32, upd, opn, aLoad, loadL, giveOne, reify, reifyL, readL, readOne, Mwp, M.bind, Mem.set, setAt, cellsL, hG, f0]
 all_goals first | done | rfl | exact ⟨rfl, rfl⟩ | trace_state

set_option maxHeartbeats 4000000 in
set_option maxRecDepth 100000 in
theorem good_linkT (x : Nr) : Good Try.prog 32 [(nrA x, false)] [] [(.agg [i64 x.of, i64 x.co], false)] [] := by
 refine good_of_body2 8 Try.func32 rfl rfl rfl (by simp) ?_
 intro s m ha hr hv hG
 have f0 : s 0 = .v (.agg [i64 x.of, i64 x.co, i64 x.bo, i64 x.ep, .b x.he, .b x.fu, i64 x.ag, .b x.go]) := ha 0 _ rfl
 clear ha
 refine AW.sr (cfg := cfg) ?_
 apply aops_step (by decide) rfl
 ·intro K hK
  simp (disch := first | omega | decide) only [go_sem, f0, act_box_t ti36, List.map]
  rw [settleL_vish _ _ (by rfl)]
  simp (disch := first | omega | decide) only [go_sem, f0, cellsL, List.map, List.length_cons, List.length_nil, Nat.reduceAdd, if_true]
  exact hK _
 apply aops_step (by decide) rfl
 ·intro K hK
  simp (disch := first | omega | decide) only [go_sem, f0, act_alloc_t ti34, List.map]
  exact hK _
 refine aops_nil ?_
 refine AW.sr (cfg := cfg) ?_
 refine aops_fl (by decide) (by decide) fo36_0 ti3 (by simp (disch := first | omega | decide) only [go_sem, f0]; rfl) (by simp (disch := first | omega | decide) only [go_sem, f0]; rfl) (by rfl) ?_
 refine aops_fl (by decide) (by decide) fo36_1 ti3 (by simp (disch := first | omega | decide) only [go_sem, f0]; rfl) (by simp (disch := first | omega | decide) only [go_sem, f0]; rfl) (by rfl) ?_
 apply aops_step (by decide) rfl
 ·intro K hK
  simp (disch := first | omega | decide) only [go_sem, f0, act_build_t ti34 pl34, List.map]
  simp [-List.map_take, -List.map_drop, fillL, okOne, cellishAV, Value.oneCell', cellsL, cellsOf, setAt, M.bind, Mwp, mset_same, Obj.isArr]
  exact hK _
 apply aops_step0 rfl
 ·intro K hK
  simp (disch := first | omega | decide) only [go_sem, f0, act_store_t ti34, List.map]
  rw [mwp_store_c (by simp (disch := first | omega | decide) only [go_sem, f0]; rfl) (by rfl) (by rfl) (by rfl) (by simp)]
  try simp only [setAt, cellsL, cellsOf_agg, cellsOf_base, List.map_cons, List.map_nil, List.set_cons_zero, List.set_cons_succ, Nat.reduceAdd, Nat.zero_add, hG]
  exact hK _
 refine aops_nil ?_
 refine AW.ret ?_
 refine ⟨.inr rfl, ?_⟩
 refine leaves_mwp2 (rs := [.cell 2 34]) rfl ?_
 simp (config := {failIfUnchanged := false}) [giveL, srcOne, rehome, freezeN, sub, ti34, upd, opn, aLoad, loadL, giveOne, reify, reifyL, readL, readOne, Mwp, M.bind, Mem.set, setAt, cellsL, hG, f0]
 all_goals first | done | rfl | exact ⟨rfl, rfl⟩ | trace_state

end Go.Vai.T
