import Derived.Test.YtblgcekomnnfmaagPkt11
import Derived.Test.YtblgcekomnnfmaagPkt9
namespace Go.Vai.P
open Go.Proofs Go.Vai Go.Vai.G Go.Vai.L Go.Vai.O Go.Vai.U Go.Vai.Z
set_option linter.unusedSimpArgs false
set_option linter.unusedVariables false

set_option maxHeartbeats 4000000 in
set_option maxRecDepth 100000 in
theorem good_PacketPuts (p : Pkt) (hp1 : p.hs.length ≤ 9223372036854775807) (hp2 : p.xs.length ≤ 9223372036854775807) (hp3 : p.ls.length ≤ 9223372036854775807) (hp4 : ∀ x ∈ p.ls, x.ls.length ≤ 9223372036854775807)(q : Pkt) (hq1 : q.hs.length ≤ 9223372036854775807) (hq2 : q.xs.length ≤ 9223372036854775807) (hq3 : q.ls.length ≤ 9223372036854775807) (hq4 : ∀ x ∈ q.ls, x.ls.length ≤ 9223372036854775807) : Good Try.prog 8 [(pktA p, false), (pktA q, false)] [] [(.b true, false)] [] := by
 refine good_of_body4 76 Try.func8 rfl rfl rfl (by simp) (by simp) (by simp [noPtrL, noPtr]) (by rfl) ?_
 intro s m ha hr hv hG
 have f0 : s 0 = .v (.agg [i64 p.kind, i64 p.fr, i64 p.boot, i64 p.to, i64 p.tb, i64 p.ep, i64 p.te, .sl 2 p.hn (p.hs.map linkA), .sl 2 p.xn (p.xs.map linkA), .sl 3 p.ln (p.ls.map lsaA)]) := ha 0 _ rfl
 have f1 : s 1 = .v (.agg [i64 q.kind, i64 q.fr, i64 q.boot, i64 q.to, i64 q.tb, i64 q.ep, i64 q.te, .sl 2 q.hn (q.hs.map linkA), .sl 2 q.xn (q.xs.map linkA), .sl 3 q.ln (q.ls.map lsaA)]) := ha 1 _ rfl
 clear ha
 refine AW.sr (cfg := cfg) ?_
 apply aops_step (by decide) rfl
 ·intro K hK
  simp (disch := first | omega | decide) only [go_sem, f0, f1, act_box_t ti28, List.map, ne_eq, not_true_eq_false, Bool.not_true, Bool.not_false, pkEq_nrm]
  rw [settleL_vish _ _ (by rfl)]
  simp (disch := first | omega | decide) only [go_sem, f0, f1, cellsL, List.map, List.length_cons, List.length_nil, Nat.reduceAdd, if_true, ne_eq, not_true_eq_false, Bool.not_true, Bool.not_false, pkEq_nrm]
  exact hK _
 apply aops_step (by decide) rfl
 ·intro K hK
  simp (disch := first | omega | decide) only [go_sem, f0, f1, act_box_t ti28, List.map, ne_eq, not_true_eq_false, Bool.not_true, Bool.not_false, pkEq_nrm]
  rw [settleL_vish _ _ (by rfl)]
  simp (disch := first | omega | decide) only [go_sem, f0, f1, cellsL, List.map, List.length_cons, List.length_nil, Nat.reduceAdd, if_true, ne_eq, not_true_eq_false, Bool.not_true, Bool.not_false, pkEq_nrm]
  exact hK _
 iterate 1 (apply aops_step (by decide) rfl; · (intro K hK; simp (disch := first | omega | decide) only [go_sem, f0, f1, ne_eq, not_true_eq_false, Bool.not_true, Bool.not_false, pkEq_nrm]; exact hK _))
 refine aops_nil ?_
 refine AW.seq ?_
 refine AW.sr (cfg := cfg) ?_
 apply aops_step (by decide) rfl
 ·intro K hK
  simp (disch := first | omega | decide) only [go_sem, f0, f1, act_load_t ti28, List.map, ne_eq, not_true_eq_false, Bool.not_true, Bool.not_false, pkEq_nrm]
  rw [mwp_load_bs (by simp (disch := first | omega | decide) only [go_sem, f0, f1, ne_eq, not_true_eq_false, Bool.not_true, Bool.not_false, pkEq_nrm]; rfl) (by simp [setAt])]
  exact hK _
 apply aops_step (by decide) rfl
 ·intro K hK
  simp (disch := first | omega | decide) only [go_sem, f0, f1, act_call, List.map, ne_eq, not_true_eq_false, Bool.not_true, Bool.not_false, pkEq_nrm]
  apply mwp_call_s rfl rfl rfl
  ·intro Q hQ
   (simp (disch := first | omega | decide) only [go_sem, f0, f1, peekL, reifyL_nil, reifyL_cons, reify_v, ne_eq, not_true_eq_false, Bool.not_true, Bool.not_false, pkEq_nrm]; (exact hQ))
  ·exact good_LightK p (by omega) (by omega) (by omega) (by assumption)
  ·simp [-List.map_take, -List.map_drop, -List.map_append, -List.map_replicate, -List.reduceReplicate, noPtrL, noPtr, noPtrL_bsl, noPtrL_map, sub]
  ·rfl
  ·exact hK _
 iterate 2 (apply aops_step (by decide) rfl; · (intro K hK; simp (disch := first | omega | decide) only [go_sem, f0, f1, ne_eq, not_true_eq_false, Bool.not_true, Bool.not_false, pkEq_nrm]; exact hK _))
 apply aops_merge' (by decide) (by exact want_of (d := 12) rfl (by simp only [go_sem, f0, f1, opn_cond, ne_eq, not_true_eq_false, Bool.not_true, Bool.not_false, pkEq_nrm]; rfl))
 ·intro hc K hK
  simp (disch := first | omega | decide) only [go_sem, f0, f1, opn_cond, hc, if_true, act_load_t ti28, ne_eq, not_true_eq_false, Bool.not_true, Bool.not_false, pkEq_nrm]
  rw [mwp_load_bs (by simp (disch := first | omega | decide) only [go_sem, f0, f1, opn_cond, hc, if_true, ne_eq, not_true_eq_false, Bool.not_true, Bool.not_false, pkEq_nrm]; rfl) (by simp [setAt])]
  exact hK _
 apply aops_merge' (by decide) (by exact want_of (d := 12) rfl (by simp (disch := first | omega | decide) only [go_sem, f0, f1, opn_cond, ne_eq, not_true_eq_false, Bool.not_true, Bool.not_false, pkEq_nrm]; rfl))
 ·intro hc K hK
  have hc2 := hc
  simp only [beq_iff_eq, decide_eq_true_eq, decide_eq_false_iff_not, Bool.or_eq_true, Bool.and_eq_true, Bool.or_eq_false_iff, Bool.and_eq_false_iff] at hc2
  simp (disch := first | omega | decide) only [go_sem, f0, f1, opn_cond, hc, if_true, act_call, List.map, ne_eq, not_true_eq_false, Bool.not_true, Bool.not_false, pkEq_nrm]
  apply mwp_call_s rfl rfl rfl
  ·intro Q hQ
   (simp (disch := first | omega | decide) only [go_sem, f0, f1, opn_cond, hc, if_true, peekL, reifyL_nil, reifyL_cons, reify_v, ne_eq, not_true_eq_false, Bool.not_true, Bool.not_false, pkEq_nrm]; (exact hQ))
  ·exact good_LightK q (by omega) (by omega) (by omega) (by assumption)
  ·simp [-List.map_take, -List.map_drop, -List.map_append, -List.map_replicate, -List.reduceReplicate, noPtrL, noPtr, noPtrL_bsl, noPtrL_map, sub]
  ·rfl
  ·exact hK _
 apply aops_merge' (by decide) (by exact want_of (d := 12) rfl (by simp (disch := first | omega | decide) only [go_sem, f0, f1, opn_cond, ne_eq, not_true_eq_false, Bool.not_true, Bool.not_false, pkEq_nrm]; rfl))
 ·intro hc K hK
  simp (disch := first | omega | decide) only [go_sem, f0, f1, opn_cond, hc, if_true, ne_eq, not_true_eq_false, Bool.not_true, Bool.not_false, pkEq_nrm]
  exact hK _
 iterate 1 (apply aops_step (by decide) rfl; · (intro K hK; simp (disch := first | omega | decide) only [go_sem, f0, f1, ne_eq, not_true_eq_false, Bool.not_true, Bool.not_false, pkEq_nrm]; exact hK _))
 refine aops_nil ?_
 apply AW.cond
 ·(simp only [go_sem, f0, f1, ne_eq, not_true_eq_false, Bool.not_true, Bool.not_false, pkEq_nrm]; rfl)
 case ht =>
  intro hb
  try simp only [bo1, bo2, bo3, bo4, bo5, bo6] at hb
  have hbt16 := hb
  refine AW.sr (cfg := cfg) ?_
  apply aops_step (by decide) rfl
  ·intro K hK
   simp (disch := first | omega | decide) only [go_sem, f0, f1, act_call, List.map, ne_eq, not_true_eq_false, Bool.not_true, Bool.not_false, pkEq_nrm]
   apply mwp_call_s rfl rfl rfl
   ·intro Q hQ
    (simp (disch := first | omega | decide) only [go_sem, f0, f1, peekL, reifyL_nil, reifyL_cons, reify_v, ne_eq, not_true_eq_false, Bool.not_true, Bool.not_false, pkEq_nrm]; (exact hQ))
   ·exact good_awake
   ·simp [-List.map_take, -List.map_drop, -List.map_append, -List.map_replicate, -List.reduceReplicate, noPtrL, noPtr, noPtrL_bsl, noPtrL_map, sub]
   ·rfl
   ·exact hK _
  iterate 1 (apply aops_step (by decide) rfl; · (intro K hK; simp (disch := first | omega | decide) only [go_sem, f0, f1, ne_eq, not_true_eq_false, Bool.not_true, Bool.not_false, pkEq_nrm]; exact hK _))
  refine aops_nil ?_
  refine AW.ret ?_
  refine ⟨.inr rfl, ?_⟩
  apply Exists.intro
  refine leaves_tmp1 4 rfl ?_ (by rfl)
  simp (disch := first | omega | decide) only [go_sem, f0, f1, ne_eq, not_true_eq_false, Bool.not_true, Bool.not_false, pkEq_nrm]
  all_goals first | done | rfl | trace_state
 case hf =>
  intro hb
  try simp only [bo1, bo2, bo3, bo4, bo5, bo6] at hb
  have hbt16 := hb
  refine AW.skip ?_
  refine AW.seq ?_
  obtain ⟨li1, li2⟩ : lightK p = true ∧ lightK q = true := ⟨light_l hbt16.1, light_l hbt16.2⟩
  obtain ⟨la1, la2, la3, la4⟩ := lightK_bd li1
  obtain ⟨lb1, lb2, lb3, lb4⟩ := lightK_bd li2
  refine AW.region (cfg := cfg) ?_
  apply aops_step (by decide) rfl
  ·intro K hK
   simp (disch := first | omega | decide) only [go_sem, f0, f1, act_load_t ti28, List.map, ne_eq, not_true_eq_false, Bool.not_true, Bool.not_false, pkEq_nrm]
   rw [mwp_load_bs (by simp (disch := first | omega | decide) only [go_sem, f0, f1, ne_eq, not_true_eq_false, Bool.not_true, Bool.not_false, pkEq_nrm]; rfl) (by simp [setAt])]
   exact hK _
  apply aops_step (by decide) rfl
  ·intro K hK
   simp (disch := first | omega | decide) only [go_sem, f0, f1, act_call, List.map, ne_eq, not_true_eq_false, Bool.not_true, Bool.not_false, pkEq_nrm]
   apply mwp_call_r rfl rfl rfl
   ·intro Q hQ
    (simp (disch := first | omega | decide) only [go_sem, f0, f1, peekL, reifyL_nil, reifyL_cons, reify_v, ne_eq, not_true_eq_false, Bool.not_true, Bool.not_false, pkEq_nrm]; (exact hQ))
   ·exact good_PutK p (by omega) (by omega) (by omega) (by assumption)
   ·simp [-List.map_take, -List.map_drop, -List.map_append, -List.map_replicate, -List.reduceReplicate, noPtrL, noPtr, noPtrL_bsl, noPtrL_map, sub]
   ·rw [resOf_own2 (by (simp (disch := decide) only [mset_ne, hr]; done))]
    exact hK _
  iterate 3 (apply aops_step (by decide) rfl; · (intro K hK; simp (disch := first | omega | decide) only [go_sem, f0, f1, ne_eq, not_true_eq_false, Bool.not_true, Bool.not_false, pkEq_nrm]; exact hK _))
  apply aops_step (by decide) rfl
  ·intro K hK
   simp (disch := first | omega | decide) only [go_sem, f0, f1, ne_eq, not_true_eq_false, Bool.not_true, Bool.not_false, pkEq_nrm]
   rw [asg_tmp (by simp (disch := first | omega | decide) only [go_sem, f0, f1, ne_eq, not_true_eq_false, Bool.not_true, Bool.not_false, pkEq_nrm]; rfl)]
   exact hK _
  iterate 1 (apply aops_step (by decide) rfl; · (intro K hK; simp (disch := first | omega | decide) only [go_sem, f0, f1, ne_eq, not_true_eq_false, Bool.not_true, Bool.not_false, pkEq_nrm]; exact hK _))
  refine aops_nil ?_
  refine AW.seq ?_
  refine AW.seq ?_
  rcases okp_way p with hp | hp
  ·skip
   obtain ⟨e4, e5⟩ := ps_no hp
   have e6 := hp
   have e7 := hp
   refine AW.draw (cfg := cfg) (by kernel_rfl) (by kernel_rfl) (by kernel_rfl) ?_
   apply adraw_step rfl
   ·intro K hK
    simp (disch := first | omega | decide) only [go_sem, f0, f1, hp, e4, e5, e6, e7, act_load_t ti28, List.map, ne_eq, not_true_eq_false, Bool.not_true, Bool.not_false, pkEq_nrm]
    rw [mwp_load_bs (by simp (disch := first | omega | decide) only [go_sem, f0, f1, hp, e4, e5, e6, e7, ne_eq, not_true_eq_false, Bool.not_true, Bool.not_false, pkEq_nrm]; rfl) (by simp [setAt])]
    exact hK
   apply adraw_step rfl
   ·intro K hK
    simp (disch := first | omega | decide) only [go_sem, f0, f1, hp, e4, e5, e6, e7, act_call, List.map, ne_eq, not_true_eq_false, Bool.not_true, Bool.not_false, pkEq_nrm]
    apply mwp_call_s rfl rfl rfl
    ·intro Q hQ
     (simp (disch := first | omega | decide) only [go_sem, f0, f1, hp, e4, e5, e6, e7, peekL, reifyL_nil, reifyL_cons, reify_v, ne_eq, not_true_eq_false, Bool.not_true, Bool.not_false, pkEq_nrm]; (exact hQ))
    ·exact good_Check p (by omega) (by omega) (by omega) (by assumption)
    ·simp [-List.map_take, -List.map_drop, -List.map_append, -List.map_replicate, -List.reduceReplicate, noPtrL, noPtr, noPtrL_bsl, noPtrL_map, sub]
    ·rfl
    ·exact hK
   iterate 1 (apply adraw_step rfl; · (intro K hK; simp (disch := first | omega | decide) only [go_sem, f0, f1, hp, e4, e5, e6, e7, ne_eq, not_true_eq_false, Bool.not_true, Bool.not_false, pkEq_nrm]; exact hK))
   apply adraw_step rfl
   ·intro K hK
    simp (disch := first | omega | decide) only [go_sem, f0, f1, hp, e4, e5, e6, e7, act_load_t ti28, List.map, ne_eq, not_true_eq_false, Bool.not_true, Bool.not_false, pkEq_nrm]
    rw [mwp_load_bs (by simp (disch := first | omega | decide) only [go_sem, f0, f1, hp, e4, e5, e6, e7, ne_eq, not_true_eq_false, Bool.not_true, Bool.not_false, pkEq_nrm]; rfl) (by simp [setAt])]
    exact hK
   apply adraw_step rfl
   ·intro K hK
    simp (disch := first | omega | decide) only [go_sem, f0, f1, hp, e4, e5, e6, e7, act_call, List.map, ne_eq, not_true_eq_false, Bool.not_true, Bool.not_false, pkEq_nrm]
    apply mwp_call_s rfl rfl rfl
    ·intro Q hQ
     (simp (disch := first | omega | decide) only [go_sem, f0, f1, hp, e4, e5, e6, e7, peekL, reifyL_nil, reifyL_cons, reify_v, ne_eq, not_true_eq_false, Bool.not_true, Bool.not_false, pkEq_nrm]; (exact hQ))
    ·exact good_refMay14 p (by omega) (by omega) (by omega) (by assumption)
    ·simp [-List.map_take, -List.map_drop, -List.map_append, -List.map_replicate, -List.reduceReplicate, noPtrL, noPtr, noPtrL_bsl, noPtrL_map, sub]
    ·rfl
    ·exact hK
   iterate 2 (apply adraw_step rfl; · (intro K hK; simp (disch := first | omega | decide) only [go_sem, f0, f1, hp, e4, e5, e6, e7, bin_neq_b u4, ne_eq, not_true_eq_false, Bool.not_true, Bool.not_false, pkEq_nrm]; exact hK))
   apply adraw_step rfl
   ·intro K hK
    simp (disch := first | omega | decide) only [go_sem, f0, f1, hp, e4, e5, e6, e7, act_load_t ti28, List.map, ne_eq, not_true_eq_false, Bool.not_true, Bool.not_false, pkEq_nrm]
    rw [mwp_load_bs (by simp (disch := first | omega | decide) only [go_sem, f0, f1, hp, e4, e5, e6, e7, ne_eq, not_true_eq_false, Bool.not_true, Bool.not_false, pkEq_nrm]; rfl) (by simp [setAt])]
    exact hK
   apply adraw_step rfl
   ·intro K hK
    simp (disch := first | omega | decide) only [go_sem, f0, f1, hp, e4, e5, e6, e7, act_load_t ti28, List.map, ne_eq, not_true_eq_false, Bool.not_true, Bool.not_false, pkEq_nrm]
    rw [mwp_load_bs (by simp (disch := first | omega | decide) only [go_sem, f0, f1, hp, e4, e5, e6, e7, ne_eq, not_true_eq_false, Bool.not_true, Bool.not_false, pkEq_nrm]; rfl) (by simp [setAt])]
    exact hK
   apply adraw_step rfl
   ·intro K hK
    simp (disch := first | omega | decide) only [go_sem, f0, f1, hp, e4, e5, e6, e7, act_call, List.map, ne_eq, not_true_eq_false, Bool.not_true, Bool.not_false, pkEq_nrm]
    apply mwp_call_s rfl rfl rfl
    ·intro Q hQ
     (simp (disch := first | omega | decide) only [go_sem, f0, f1, hp, e4, e5, e6, e7, peekL, reifyL_nil, reifyL_cons, reify_v, ne_eq, not_true_eq_false, Bool.not_true, Bool.not_false, pkEq_nrm]; (exact hQ))
    ·exact good_SameK p (by omega) (by omega) (by omega) (by assumption) q (by omega) (by omega) (by omega) (by assumption)
    ·simp [-List.map_take, -List.map_drop, -List.map_append, -List.map_replicate, -List.reduceReplicate, noPtrL, noPtr, noPtrL_bsl, noPtrL_map, sub]
    ·rfl
    ·exact hK
   apply adraw_step rfl
   ·intro K hK
    simp (disch := first | omega | decide) only [go_sem, f0, f1, hp, e4, e5, e6, e7, act_load_t ti28, List.map, ne_eq, not_true_eq_false, Bool.not_true, Bool.not_false, pkEq_nrm]
    rw [mwp_load_bs (by simp (disch := first | omega | decide) only [go_sem, f0, f1, hp, e4, e5, e6, e7, ne_eq, not_true_eq_false, Bool.not_true, Bool.not_false, pkEq_nrm]; rfl) (by simp [setAt])]
    exact hK
   apply adraw_step rfl
   ·intro K hK
    simp (disch := first | omega | decide) only [go_sem, f0, f1, hp, e4, e5, e6, e7, act_load_t ti28, List.map, ne_eq, not_true_eq_false, Bool.not_true, Bool.not_false, pkEq_nrm]
    rw [mwp_load_bs (by simp (disch := first | omega | decide) only [go_sem, f0, f1, hp, e4, e5, e6, e7, ne_eq, not_true_eq_false, Bool.not_true, Bool.not_false, pkEq_nrm]; rfl) (by simp [setAt])]
    exact hK
   apply adraw_step rfl
   ·intro K hK
    simp (disch := first | omega | decide) only [go_sem, f0, f1, hp, e4, e5, e6, e7, act_call, List.map, ne_eq, not_true_eq_false, Bool.not_true, Bool.not_false, pkEq_nrm]
    apply mwp_call_s rfl rfl rfl
    ·intro Q hQ
     (simp (disch := first | omega | decide) only [go_sem, f0, f1, hp, e4, e5, e6, e7, peekL, reifyL_nil, reifyL_cons, reify_v, ne_eq, not_true_eq_false, Bool.not_true, Bool.not_false, pkEq_nrm]; (exact hQ))
    ·exact good_refSameK p (by omega) (by omega) (by omega) (by assumption) q (by omega) (by omega) (by omega) (by assumption)
    ·simp [-List.map_take, -List.map_drop, -List.map_append, -List.map_replicate, -List.reduceReplicate, noPtrL, noPtr, noPtrL_bsl, noPtrL_map, sub]
    ·rfl
    ·exact hK
   iterate 2 (apply adraw_step rfl; · (intro K hK; simp (disch := first | omega | decide) only [go_sem, f0, f1, hp, e4, e5, e6, e7, bin_neq_b u4, ne_eq, not_true_eq_false, Bool.not_true, Bool.not_false, pkEq_nrm]; exact hK))
   refine adraw_nil (by kernel_rfl) ?_
   apply AW.cond
   ·(simp only [go_sem, f0, f1, hp, e4, e5, e6, e7, ne_eq, not_true_eq_false, Bool.not_true, Bool.not_false, pkEq_nrm]; rfl)
   case ht => intro hb; simp at hb
   case hf =>
   intro hb
   have hbt37 := hb
   refine AW.skip ?_
   refine AW.seq ?_
   refine AW.sr (cfg := cfg) ?_
   apply aops_step (by decide) rfl
   ·intro K hK
    simp (disch := first | omega | decide) only [go_sem, f0, f1, hp, e4, e5, e6, e7, act_load_t ti28, List.map, ne_eq, not_true_eq_false, Bool.not_true, Bool.not_false, pkEq_nrm]
    rw [mwp_load_bs (by simp (disch := first | omega | decide) only [go_sem, f0, f1, hp, e4, e5, e6, e7, ne_eq, not_true_eq_false, Bool.not_true, Bool.not_false, pkEq_nrm]; rfl) (by simp [setAt])]
    exact hK _
   apply aops_step (by decide) rfl
   ·intro K hK
    simp (disch := first | omega | decide) only [go_sem, f0, f1, hp, e4, e5, e6, e7, act_call, List.map, ne_eq, not_true_eq_false, Bool.not_true, Bool.not_false, pkEq_nrm]
    apply mwp_call_s rfl rfl rfl
    ·intro Q hQ
     (simp (disch := first | omega | decide) only [go_sem, f0, f1, hp, e4, e5, e6, e7, peekL, reifyL_nil, reifyL_cons, reify_v, ne_eq, not_true_eq_false, Bool.not_true, Bool.not_false, pkEq_nrm]; (exact hQ))
    ·exact good_refMay14 p (by omega) (by omega) (by omega) (by assumption)
    ·simp [-List.map_take, -List.map_drop, -List.map_append, -List.map_replicate, -List.reduceReplicate, noPtrL, noPtr, noPtrL_bsl, noPtrL_map, sub]
    ·rfl
    ·exact hK _
   iterate 1 (apply aops_step (by decide) rfl; · (intro K hK; simp (disch := first | omega | decide) only [go_sem, f0, f1, hp, e4, e5, e6, e7, ne_eq, not_true_eq_false, Bool.not_true, Bool.not_false, pkEq_nrm]; exact hK _))
   refine aops_nil ?_
   apply AW.cond
   ·(simp only [go_sem, f0, f1, hp, e4, e5, e6, e7, ne_eq, not_true_eq_false, Bool.not_true, Bool.not_false, pkEq_nrm]; rfl)
   case hf => intro hb; (simp at hb; done)
   case ht =>
   intro hb
   have hbt40 := hb
   refine AW.sr (cfg := cfg) ?_
   iterate 4 (apply aops_step (by decide) rfl; · (intro K hK; simp (disch := first | omega | decide) only [go_sem, f0, f1, hp, e4, e5, e6, e7, ne_eq, not_true_eq_false, Bool.not_true, Bool.not_false, pkEq_nrm]; exact hK _))
   apply aops_step (by decide) rfl
   ·intro K hK
    simp (disch := first | omega | decide) only [go_sem, f0, f1, hp, e4, e5, e6, e7, List.map, List.length_map, aops_len u22, ne_eq, not_true_eq_false, Bool.not_true, Bool.not_false, pkEq_nrm]
    ((rw [mwp_len_own u22 (by simp (disch := first | omega | decide) only [go_sem, f0, f1, hp, e4, e5, e6, e7, List.map, ne_eq, not_true_eq_false, Bool.not_true, Bool.not_false, pkEq_nrm]; rfl)]); (try rw [sub_full (by rfl)]); (try simp only [List.length_map]); exact hK _)
   iterate 3 (apply aops_step (by decide) rfl; · (intro K hK; simp (disch := first | omega | decide) only [go_sem, f0, f1, hp, e4, e5, e6, e7, ne_eq, not_true_eq_false, Bool.not_true, Bool.not_false, pkEq_nrm]; exact hK _))
   apply aops_step (by decide) rfl
   ·intro K hK
    simp (disch := first | omega | decide) only [go_sem, f0, f1, hp, e4, e5, e6, e7, act_call, List.map, ne_eq, not_true_eq_false, Bool.not_true, Bool.not_false, pkEq_nrm]
    apply mwp_call_s rfl rfl rfl
    ·intro Q hQ
     (simp (disch := first | omega | decide) only [go_sem, f0, f1, hp, e4, e5, e6, e7, peekL, reifyL_nil, reifyL_cons, reify_v, ne_eq, not_true_eq_false, Bool.not_true, Bool.not_false, pkEq_nrm]; (exact hQ))
    ·exact good_awake
    ·simp [-List.map_take, -List.map_drop, -List.map_append, -List.map_replicate, -List.reduceReplicate, noPtrL, noPtr, noPtrL_bsl, noPtrL_map, sub]
    ·rfl
    ·exact hK _
   iterate 2 (apply aops_step (by decide) rfl; · (intro K hK; simp (disch := first | omega | decide) only [go_sem, f0, f1, hp, e4, e5, e6, e7, ne_eq, not_true_eq_false, Bool.not_true, Bool.not_false, pkEq_nrm]; exact hK _))
   refine aops_nil ?_
   refine AW.ret ?_
   refine ⟨.inr rfl, ?_⟩
   apply Exists.intro
   refine leaves_tmp1 4 rfl ?_ (by rfl)
   simp (disch := first | omega | decide) only [go_sem, f0, f1, hp, e4, e5, e6, e7, ne_eq, not_true_eq_false, Bool.not_true, Bool.not_false, pkEq_nrm]
   all_goals rfl
  ·skip
   obtain ⟨_, e5⟩ := ps_ok hp
   obtain ⟨_, e6, e7⟩ := pk_get hp
   have e4 := hp
   have hl4 := ps_len2 hp
   have hl5 := pktB_len hp
   refine AW.draw (cfg := cfg) (by kernel_rfl) (by kernel_rfl) (by kernel_rfl) ?_
   apply adraw_step rfl
   ·intro K hK
    simp (disch := first | omega | decide) only [go_sem, f0, f1, hp, e4, e5, e6, e7, act_load_t ti28, List.map, ne_eq, not_true_eq_false, Bool.not_true, Bool.not_false, pkEq_nrm]
    rw [mwp_load_bs (by simp (disch := first | omega | decide) only [go_sem, f0, f1, hp, e4, e5, e6, e7, ne_eq, not_true_eq_false, Bool.not_true, Bool.not_false, pkEq_nrm]; rfl) (by simp [setAt])]
    exact hK
   apply adraw_step rfl
   ·intro K hK
    simp (disch := first | omega | decide) only [go_sem, f0, f1, hp, e4, e5, e6, e7, act_call, List.map, ne_eq, not_true_eq_false, Bool.not_true, Bool.not_false, pkEq_nrm]
    apply mwp_call_s rfl rfl rfl
    ·intro Q hQ
     (simp (disch := first | omega | decide) only [go_sem, f0, f1, hp, e4, e5, e6, e7, peekL, reifyL_nil, reifyL_cons, reify_v, ne_eq, not_true_eq_false, Bool.not_true, Bool.not_false, pkEq_nrm]; (exact hQ))
    ·exact good_Check p (by omega) (by omega) (by omega) (by assumption)
    ·simp [-List.map_take, -List.map_drop, -List.map_append, -List.map_replicate, -List.reduceReplicate, noPtrL, noPtr, noPtrL_bsl, noPtrL_map, sub]
    ·rfl
    ·exact hK
   iterate 1 (apply adraw_step rfl; · (intro K hK; simp (disch := first | omega | decide) only [go_sem, f0, f1, hp, e4, e5, e6, e7, ne_eq, not_true_eq_false, Bool.not_true, Bool.not_false, pkEq_nrm]; exact hK))
   apply adraw_step rfl
   ·intro K hK
    simp (disch := first | omega | decide) only [go_sem, f0, f1, hp, e4, e5, e6, e7, act_load_t ti28, List.map, ne_eq, not_true_eq_false, Bool.not_true, Bool.not_false, pkEq_nrm]
    rw [mwp_load_bs (by simp (disch := first | omega | decide) only [go_sem, f0, f1, hp, e4, e5, e6, e7, ne_eq, not_true_eq_false, Bool.not_true, Bool.not_false, pkEq_nrm]; rfl) (by simp [setAt])]
    exact hK
   apply adraw_step rfl
   ·intro K hK
    simp (disch := first | omega | decide) only [go_sem, f0, f1, hp, e4, e5, e6, e7, act_call, List.map, ne_eq, not_true_eq_false, Bool.not_true, Bool.not_false, pkEq_nrm]
    apply mwp_call_s rfl rfl rfl
    ·intro Q hQ
     (simp (disch := first | omega | decide) only [go_sem, f0, f1, hp, e4, e5, e6, e7, peekL, reifyL_nil, reifyL_cons, reify_v, ne_eq, not_true_eq_false, Bool.not_true, Bool.not_false, pkEq_nrm]; (exact hQ))
    ·exact good_refMay14 p (by omega) (by omega) (by omega) (by assumption)
    ·simp [-List.map_take, -List.map_drop, -List.map_append, -List.map_replicate, -List.reduceReplicate, noPtrL, noPtr, noPtrL_bsl, noPtrL_map, sub]
    ·rfl
    ·exact hK
   iterate 2 (apply adraw_step rfl; · (intro K hK; simp (disch := first | omega | decide) only [go_sem, f0, f1, hp, e4, e5, e6, e7, bin_neq_b u4, ne_eq, not_true_eq_false, Bool.not_true, Bool.not_false, pkEq_nrm]; exact hK))
   apply adraw_step rfl
   ·intro K hK
    simp (disch := first | omega | decide) only [go_sem, f0, f1, hp, e4, e5, e6, e7, act_load_t ti28, List.map, ne_eq, not_true_eq_false, Bool.not_true, Bool.not_false, pkEq_nrm]
    rw [mwp_load_bs (by simp (disch := first | omega | decide) only [go_sem, f0, f1, hp, e4, e5, e6, e7, ne_eq, not_true_eq_false, Bool.not_true, Bool.not_false, pkEq_nrm]; rfl) (by simp [setAt])]
    exact hK
   apply adraw_step rfl
   ·intro K hK
    simp (disch := first | omega | decide) only [go_sem, f0, f1, hp, e4, e5, e6, e7, act_load_t ti28, List.map, ne_eq, not_true_eq_false, Bool.not_true, Bool.not_false, pkEq_nrm]
    rw [mwp_load_bs (by simp (disch := first | omega | decide) only [go_sem, f0, f1, hp, e4, e5, e6, e7, ne_eq, not_true_eq_false, Bool.not_true, Bool.not_false, pkEq_nrm]; rfl) (by simp [setAt])]
    exact hK
   apply adraw_step rfl
   ·intro K hK
    simp (disch := first | omega | decide) only [go_sem, f0, f1, hp, e4, e5, e6, e7, act_call, List.map, ne_eq, not_true_eq_false, Bool.not_true, Bool.not_false, pkEq_nrm]
    apply mwp_call_s rfl rfl rfl
    ·intro Q hQ
     (simp (disch := first | omega | decide) only [go_sem, f0, f1, hp, e4, e5, e6, e7, peekL, reifyL_nil, reifyL_cons, reify_v, ne_eq, not_true_eq_false, Bool.not_true, Bool.not_false, pkEq_nrm]; (exact hQ))
    ·exact good_SameK p (by omega) (by omega) (by omega) (by assumption) q (by omega) (by omega) (by omega) (by assumption)
    ·simp [-List.map_take, -List.map_drop, -List.map_append, -List.map_replicate, -List.reduceReplicate, noPtrL, noPtr, noPtrL_bsl, noPtrL_map, sub]
    ·rfl
    ·exact hK
   apply adraw_step rfl
   ·intro K hK
    simp (disch := first | omega | decide) only [go_sem, f0, f1, hp, e4, e5, e6, e7, act_load_t ti28, List.map, ne_eq, not_true_eq_false, Bool.not_true, Bool.not_false, pkEq_nrm]
    rw [mwp_load_bs (by simp (disch := first | omega | decide) only [go_sem, f0, f1, hp, e4, e5, e6, e7, ne_eq, not_true_eq_false, Bool.not_true, Bool.not_false, pkEq_nrm]; rfl) (by simp [setAt])]
    exact hK
   apply adraw_step rfl
   ·intro K hK
    simp (disch := first | omega | decide) only [go_sem, f0, f1, hp, e4, e5, e6, e7, act_load_t ti28, List.map, ne_eq, not_true_eq_false, Bool.not_true, Bool.not_false, pkEq_nrm]
    rw [mwp_load_bs (by simp (disch := first | omega | decide) only [go_sem, f0, f1, hp, e4, e5, e6, e7, ne_eq, not_true_eq_false, Bool.not_true, Bool.not_false, pkEq_nrm]; rfl) (by simp [setAt])]
    exact hK
   apply adraw_step rfl
   ·intro K hK
    simp (disch := first | omega | decide) only [go_sem, f0, f1, hp, e4, e5, e6, e7, act_call, List.map, ne_eq, not_true_eq_false, Bool.not_true, Bool.not_false, pkEq_nrm]
    apply mwp_call_s rfl rfl rfl
    ·intro Q hQ
     (simp (disch := first | omega | decide) only [go_sem, f0, f1, hp, e4, e5, e6, e7, peekL, reifyL_nil, reifyL_cons, reify_v, ne_eq, not_true_eq_false, Bool.not_true, Bool.not_false, pkEq_nrm]; (exact hQ))
    ·exact good_refSameK p (by omega) (by omega) (by omega) (by assumption) q (by omega) (by omega) (by omega) (by assumption)
    ·simp [-List.map_take, -List.map_drop, -List.map_append, -List.map_replicate, -List.reduceReplicate, noPtrL, noPtr, noPtrL_bsl, noPtrL_map, sub]
    ·rfl
    ·exact hK
   iterate 2 (apply adraw_step rfl; · (intro K hK; simp (disch := first | omega | decide) only [go_sem, f0, f1, hp, e4, e5, e6, e7, bin_neq_b u4, ne_eq, not_true_eq_false, Bool.not_true, Bool.not_false, pkEq_nrm]; exact hK))
   refine adraw_nil (by kernel_rfl) ?_
   apply AW.cond
   ·(simp only [go_sem, f0, f1, hp, e4, e5, e6, e7, ne_eq, not_true_eq_false, Bool.not_true, Bool.not_false, pkEq_nrm]; rfl)
   case ht => intro hb; simp at hb
   case hf =>
   intro hb
   have hbt37 := hb
   refine AW.skip ?_
   refine AW.seq ?_
   refine AW.sr (cfg := cfg) ?_
   apply aops_step (by decide) rfl
   ·intro K hK
    simp (disch := first | omega | decide) only [go_sem, f0, f1, hp, e4, e5, e6, e7, act_load_t ti28, List.map, ne_eq, not_true_eq_false, Bool.not_true, Bool.not_false, pkEq_nrm]
    rw [mwp_load_bs (by simp (disch := first | omega | decide) only [go_sem, f0, f1, hp, e4, e5, e6, e7, ne_eq, not_true_eq_false, Bool.not_true, Bool.not_false, pkEq_nrm]; rfl) (by simp [setAt])]
    exact hK _
   apply aops_step (by decide) rfl
   ·intro K hK
    simp (disch := first | omega | decide) only [go_sem, f0, f1, hp, e4, e5, e6, e7, act_call, List.map, ne_eq, not_true_eq_false, Bool.not_true, Bool.not_false, pkEq_nrm]
    apply mwp_call_s rfl rfl rfl
    ·intro Q hQ
     (simp (disch := first | omega | decide) only [go_sem, f0, f1, hp, e4, e5, e6, e7, peekL, reifyL_nil, reifyL_cons, reify_v, ne_eq, not_true_eq_false, Bool.not_true, Bool.not_false, pkEq_nrm]; (exact hQ))
    ·exact good_refMay14 p (by omega) (by omega) (by omega) (by assumption)
    ·simp [-List.map_take, -List.map_drop, -List.map_append, -List.map_replicate, -List.reduceReplicate, noPtrL, noPtr, noPtrL_bsl, noPtrL_map, sub]
    ·rfl
    ·exact hK _
   iterate 1 (apply aops_step (by decide) rfl; · (intro K hK; simp (disch := first | omega | decide) only [go_sem, f0, f1, hp, e4, e5, e6, e7, ne_eq, not_true_eq_false, Bool.not_true, Bool.not_false, pkEq_nrm]; exact hK _))
   refine aops_nil ?_
   apply AW.cond
   ·(simp only [go_sem, f0, f1, hp, e4, e5, e6, e7, ne_eq, not_true_eq_false, Bool.not_true, Bool.not_false, pkEq_nrm]; rfl)
   case ht => intro hb; (simp at hb; done)
   case hf =>
   intro hb
   have hbt40 := hb
   refine AW.skip ?_
   refine AW.sr (cfg := cfg) ?_
   iterate 1 (apply aops_step (by decide) rfl; · (intro K hK; simp (disch := first | omega | decide) only [go_sem, f0, f1, hp, e4, e5, e6, e7, ne_eq, not_true_eq_false, Bool.not_true, Bool.not_false, pkEq_nrm]; exact hK _))
   apply aops_step (by decide) rfl
   ·intro K hK
    simp (disch := first | omega | decide) only [go_sem, f0, f1, hp, e4, e5, e6, e7, act_call, List.map, ne_eq, not_true_eq_false, Bool.not_true, Bool.not_false, pkEq_nrm]
    apply mwp_call_r rfl rfl rfl
    ·intro Q hQ
     (simp (disch := first | omega | decide) only [go_sem, f0, f1, hp, e4, e5, e6, e7, peekL, reifyL_nil, reifyL_cons, reify_v, ne_eq, not_true_eq_false, Bool.not_true, Bool.not_false, pkEq_nrm]; ((((rw [mwp_reify_own (by simp (disch := first | omega | decide) only [go_sem, f0, f1, hp, e4, e5, e6, e7, peekL, reifyL_nil, reifyL_cons, reify_v, ne_eq, not_true_eq_false, Bool.not_true, Bool.not_false, pkEq_nrm]; rfl)]); (try rw [sub_full (by rfl)])); exact hQ)))
    ·exact good_GetK false (pktS p) (by omega) (by simp)
    ·simp [-List.map_take, -List.map_drop, -List.map_append, -List.map_replicate, -List.reduceReplicate, noPtrL, noPtr, noPtrL_bsl, noPtrL_map, sub]
    ·simp (disch := first | omega | decide) only [go_sem, f0, f1, hp, e4, e5, e6, e7, ne_eq, not_true_eq_false, Bool.not_true, Bool.not_false, pkEq_nrm]
     exact hK _
   iterate 3 (apply aops_step (by decide) rfl; · (intro K hK; simp (disch := first | omega | decide) only [go_sem, f0, f1, hp, e4, e5, e6, e7, ne_eq, not_true_eq_false, Bool.not_true, Bool.not_false, pkEq_nrm]; exact hK _))
   apply aops_step (by decide) rfl
   ·intro K hK
    simp (disch := first | omega | decide) only [go_sem, f0, f1, hp, e4, e5, e6, e7, act_alloc_t ti28, List.map, ne_eq, not_true_eq_false, Bool.not_true, Bool.not_false, pkEq_nrm]
    exact hK _
   apply aops_step0 rfl
   ·intro K hK
    simp (disch := first | omega | decide) only [go_sem, f0, f1, hp, e4, e5, e6, e7, act_store_t ti28, List.map, ne_eq, not_true_eq_false, Bool.not_true, Bool.not_false, pkEq_nrm]
    rw [mwp_store_c (by simp (disch := first | omega | decide) only [go_sem, f0, f1, hp, e4, e5, e6, e7, ne_eq, not_true_eq_false, Bool.not_true, Bool.not_false, pkEq_nrm]; rfl) (by rfl) (by rfl) (by rfl) (by simp)]
    try simp only [setAt, cellsL, cellsOf_agg, cellsOf_base, List.map_cons, List.map_nil, List.set_cons_zero, List.set_cons_succ, Nat.reduceAdd, Nat.zero_add, hG]
    exact hK _
   iterate 1 (apply aops_step (by decide) rfl; · (intro K hK; simp (disch := first | omega | decide) only [go_sem, f0, f1, hp, e4, e5, e6, e7, ne_eq, not_true_eq_false, Bool.not_true, Bool.not_false, pkEq_nrm]; exact hK _))
   refine aops_nil ?_
   refine AW.sr (cfg := cfg) ?_
   iterate 4 (apply aops_step (by decide) rfl; · (intro K hK; simp (disch := first | omega | decide) only [go_sem, f0, f1, hp, e4, e5, e6, e7, ne_eq, not_true_eq_false, Bool.not_true, Bool.not_false, pkEq_nrm]; exact hK _))
   apply aops_step (by decide) rfl
   ·intro K hK
    simp (disch := first | omega | decide) only [go_sem, f0, f1, hp, e4, e5, e6, e7, act_load_t ti28, List.map, ne_eq, not_true_eq_false, Bool.not_true, Bool.not_false, pkEq_nrm]
    rw [mwp_load_bs (by simp (disch := first | omega | decide) only [go_sem, f0, f1, hp, e4, e5, e6, e7, ne_eq, not_true_eq_false, Bool.not_true, Bool.not_false, pkEq_nrm]; rfl) (by simp [setAt])]
    exact hK _
   apply aops_step (by decide) rfl
   ·intro K hK
    simp (disch := first | omega | decide) only [go_sem, f0, f1, hp, e4, e5, e6, e7, act_call, List.map, ne_eq, not_true_eq_false, Bool.not_true, Bool.not_false, pkEq_nrm]
    apply mwp_call_r rfl rfl rfl
    ·intro Q hQ
     (simp (disch := first | omega | decide) only [go_sem, f0, f1, hp, e4, e5, e6, e7, peekL, reifyL_nil, reifyL_cons, reify_v, ne_eq, not_true_eq_false, Bool.not_true, Bool.not_false, pkEq_nrm]; (exact hQ))
    ·exact good_refPutK p (by omega) (by omega) (by omega) (by assumption) hp
    ·simp [-List.map_take, -List.map_drop, -List.map_append, -List.map_replicate, -List.reduceReplicate, noPtrL, noPtr, noPtrL_bsl, noPtrL_map, sub]
    ·simp (disch := first | omega | decide) only [go_sem, f0, f1, hp, e4, e5, e6, e7, ne_eq, not_true_eq_false, Bool.not_true, Bool.not_false, pkEq_nrm]
     exact hK _
   apply aops_step (by decide) rfl
   ·intro K hK
    simp (disch := first | omega | decide) only [go_sem, f0, f1, hp, e4, e5, e6, e7, act_call, List.map, ne_eq, not_true_eq_false, Bool.not_true, Bool.not_false, pkEq_nrm]
    apply mwp_call_s rfl rfl rfl
    ·intro Q hQ
     (simp (disch := first | omega | decide) only [go_sem, f0, f1, hp, e4, e5, e6, e7, peekL, reifyL_nil, reifyL_cons, reify_v, ne_eq, not_true_eq_false, Bool.not_true, Bool.not_false, pkEq_nrm]; ((((rw [peek_frz (by simp (disch := first | omega | decide) only [go_sem, f0, f1, hp, e4, e5, e6, e7, peekL, reifyL_nil, reifyL_cons, reify_v, ne_eq, not_true_eq_false, Bool.not_true, Bool.not_false, pkEq_nrm]; rfl)]); (try rw [sub_full (by rfl)])); exact hQ)))
    ·exact O.good_Same false false (pktS p) (pktS p) (by omega) (by omega)
    ·simp [-List.map_take, -List.map_drop, -List.map_append, -List.map_replicate, -List.reduceReplicate, noPtrL, noPtr, noPtrL_bsl, noPtrL_map, sub]
    ·rfl
    ·exact hK _
   iterate 6 (apply aops_step (by decide) rfl; · (intro K hK; simp (disch := first | omega | decide) only [go_sem, f0, f1, hp, e4, e5, e6, e7, ne_eq, not_true_eq_false, Bool.not_true, Bool.not_false, pkEq_nrm]; exact hK _))
   apply aops_step (by decide) rfl
   ·intro K hK
    simp (disch := first | omega | decide) only [go_sem, f0, f1, hp, e4, e5, e6, e7, act_load_t ti28, List.map, ne_eq, not_true_eq_false, Bool.not_true, Bool.not_false, pkEq_nrm]
    rw [mwp_load_bs (by simp (disch := first | omega | decide) only [go_sem, f0, f1, hp, e4, e5, e6, e7, ne_eq, not_true_eq_false, Bool.not_true, Bool.not_false, pkEq_nrm]; rfl) (by simp [setAt])]
    exact hK _
   apply aops_step (by decide) rfl
   ·intro K hK
    simp (disch := first | omega | decide) only [go_sem, f0, f1, hp, e4, e5, e6, e7, act_load_t ti28, List.map, ne_eq, not_true_eq_false, Bool.not_true, Bool.not_false, pkEq_nrm]
    rw [mwp_load_bs (by simp (disch := first | omega | decide) only [go_sem, f0, f1, hp, e4, e5, e6, e7, ne_eq, not_true_eq_false, Bool.not_true, Bool.not_false, pkEq_nrm]; rfl) (by simp [setAt])]
    exact hK _
   apply aops_step (by decide) rfl
   ·intro K hK
    simp (disch := first | omega | decide) only [go_sem, f0, f1, hp, e4, e5, e6, e7, act_call, List.map, ne_eq, not_true_eq_false, Bool.not_true, Bool.not_false, pkEq_nrm]
    apply mwp_call_s rfl rfl rfl
    ·intro Q hQ
     (simp (disch := first | omega | decide) only [go_sem, f0, f1, hp, e4, e5, e6, e7, peekL, reifyL_nil, reifyL_cons, reify_v, ne_eq, not_true_eq_false, Bool.not_true, Bool.not_false, pkEq_nrm]; (exact hQ))
    ·exact good_refSameK (normP p) (by show p.hs.length ≤ _; omega) (by show p.xs.length ≤ _; omega) (by show (nrmLs p.ls).length ≤ _; rw [nrm_len]; omega) (fun x hx => by obtain ⟨y, hy, rfl⟩ := List.mem_map.1 hx; exact hp4 y hy) p (by omega) (by omega) (by omega) (by assumption)
    ·simp [-List.map_take, -List.map_drop, -List.map_append, -List.map_replicate, -List.reduceReplicate, noPtrL, noPtr, noPtrL_bsl, noPtrL_map, sub]
    ·rfl
    ·exact hK _
   iterate 2 (apply aops_step (by decide) rfl; · (intro K hK; simp (disch := first | omega | decide) only [go_sem, f0, f1, hp, e4, e5, e6, e7, ne_eq, not_true_eq_false, Bool.not_true, Bool.not_false, pkEq_nrm]; exact hK _))
   apply aops_step (by decide) rfl
   ·intro K hK
    simp (disch := first | omega | decide) only [go_sem, f0, f1, hp, e4, e5, e6, e7, act_call, List.map, ne_eq, not_true_eq_false, Bool.not_true, Bool.not_false, pkEq_nrm]
    apply mwp_call_s rfl rfl rfl
    ·intro Q hQ
     (simp (disch := first | omega | decide) only [go_sem, f0, f1, hp, e4, e5, e6, e7, peekL, reifyL_nil, reifyL_cons, reify_v, ne_eq, not_true_eq_false, Bool.not_true, Bool.not_false, pkEq_nrm]; (exact hQ))
    ·exact good_awake
    ·simp [-List.map_take, -List.map_drop, -List.map_append, -List.map_replicate, -List.reduceReplicate, noPtrL, noPtr, noPtrL_bsl, noPtrL_map, sub]
    ·rfl
    ·exact hK _
   iterate 2 (apply aops_step (by decide) rfl; · (intro K hK; simp (disch := first | omega | decide) only [go_sem, f0, f1, hp, e4, e5, e6, e7, ne_eq, not_true_eq_false, Bool.not_true, Bool.not_false, pkEq_nrm]; exact hK _))
   refine aops_nil ?_
   refine AW.ret ?_
   refine ⟨.inr rfl, ?_⟩
   apply Exists.intro
   refine leaves_tmp1 4 rfl ?_ (by rfl)
   simp (disch := first | omega | decide) only [go_sem, f0, f1, hp, e4, e5, e6, e7, ne_eq, not_true_eq_false, Bool.not_true, Bool.not_false, pkEq_nrm]
   all_goals first | done | rfl | trace_state

end Go.Vai.P
