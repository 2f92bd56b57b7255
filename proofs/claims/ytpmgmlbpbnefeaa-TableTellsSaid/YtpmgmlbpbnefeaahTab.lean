import Derived.Test.YtpmgmlbpbnefeaahCfg
namespace Go.Vai.T
open Go.Proofs Go.Vai
set_option linter.unusedSimpArgs false
set_option linter.unusedVariables false

structure Nr where
  of : Int
  co : Int
  bo : Int
  ep : Int
  he : Bool
  fu : Bool
  ag : Int
  go : Bool
def nrA (x : Nr) : AV := .agg [.i .i64 x.of, .i .i64 x.co, .i .i64 x.bo, .i .i64 x.ep, .b x.he, .b x.fu, .i .i64 x.ag, .b x.go]
theorem cellsOf_nr (x : Nr) : cellsOf (nrA x) = [.i .i64 x.of, .i .i64 x.co, .i .i64 x.bo, .i .i64 x.ep, .b x.he, .b x.fu, .i .i64 x.ag, .b x.go] := rfl
@[simp] theorem noPtr_nr (x : Nr) : noPtr (nrA x) = true := by simp [nrA, noPtr, noPtrL]
@[simp] theorem noPtrL_nrs (l : List Nr) : noPtrL (l.map nrA) = true := noPtrL_map noPtr_nr _
def wi (n lo hi : Int) : Bool := decide (n ≥ lo) && decide (n ≤ hi)
def okA (n : Nr) : Bool := ((((wi n.of 1 64 && wi n.co 0 1073741824) && wi n.bo 0 1073741824) && wi n.ep 0 1073741824) && wi n.ag 0 4)
def bad (n : Nr) : Bool := ((((n.he && (decide (n.bo = 0) || decide (n.co = 0))) || (!n.he && decide (n.ag > 0))) || (n.fu && !n.he)) || (n.go && !n.fu)) || !okA n
def chk (n : Nr) : Int := if bad n then 1 else 0
theorem chk_0 {n : Nr} (h : chk n = 0) : bad n = false := by
  unfold chk at h
  cases hb : bad n with
  | false => rfl
  | true => rw [hb] at h; simp at h
theorem chk_1 {n : Nr} (h : ¬ chk n = 0) : bad n = true := by
  unfold chk at h
  cases hb : bad n with
  | true => rfl
  | false => rw [hb] at h; simp at h
theorem bad_of {n : Nr} (h : bad n = false) : 1 ≤ n.of ∧ n.of ≤ 64 := by
  simp [bad, okA, wi] at h; omega
attribute [go_sem] cellsOf_nr
set_option maxHeartbeats 4000000 in
set_option maxRecDepth 100000 in
theorem good_within (n lo hi : Int) : Good Try.prog 49 [(i64 n, false), (i64 lo, false), (i64 hi, false)] [] [(.b (wi n lo hi), false)] [] := by
 refine good_of_body2 15 Try.func49 rfl rfl rfl (by simp) ?_
 intro s m ha hr hv hG
 have f0 : s 0 = .v (i64 n) := ha 0 _ rfl
 have f1 : s 1 = .v (i64 lo) := ha 1 _ rfl
 have f2 : s 2 = .v (i64 hi) := ha 2 _ rfl
 clear ha
 refine AW.sr (cfg := cfg) ?_
 iterate 1 (apply aops_step (by decide) rfl; · (intro K hK; simp (disch := first | omega | decide) only [go_sem, f0, f1, f2]; exact hK _))
 refine aops_nil ?_
 refine AW.sr (cfg := cfg) ?_
 iterate 4 (apply aops_step (by decide) rfl; · (intro K hK; simp (disch := first | omega | decide) only [go_sem, f0, f1, f2]; exact hK _))
 apply aops_merge' (by decide) (by exact want_of (d := 10) rfl (by simp only [go_sem, f0, f1, f2, opn_cond]; rfl))
 ·intro hc K hK
  simp (disch := first | omega | decide) only [go_sem, f0, f1, f2, opn_cond, hc, if_true]
  exact hK _
 apply aops_merge' (by decide) (by exact want_of (d := 10) rfl (by simp (disch := first | omega | decide) only [go_sem, f0, f1, f2, opn_cond]; rfl))
 ·intro hc K hK
  simp (disch := first | omega | decide) only [go_sem, f0, f1, f2, opn_cond, hc, if_true]
  exact hK _
 apply aops_merge' (by decide) (by exact want_of (d := 10) rfl (by simp (disch := first | omega | decide) only [go_sem, f0, f1, f2, opn_cond]; rfl))
 ·intro hc K hK
  simp (disch := first | omega | decide) only [go_sem, f0, f1, f2, opn_cond, hc, if_true]
  exact hK _
 iterate 2 (apply aops_step (by decide) rfl; · (intro K hK; simp (disch := first | omega | decide) only [go_sem, f0, f1, f2]; exact hK _))
 refine aops_nil ?_
 refine AW.ret ?_
 refine ⟨.inr rfl, ?_⟩
 refine leaves_tmp1 6 rfl ?_ (by exact hG)
 simp (disch := first | omega | decide) only [go_sem, f0, f1, f2]
 all_goals rfl

set_option maxHeartbeats 4000000 in
set_option maxRecDepth 100000 in
theorem good_chkN (x : Nr) : Good Try.prog 34 [(nrA x, false)] [] [(i64 (chk x), false)] [] := by
 refine good_of_body2 71 Try.func34 rfl rfl rfl (by simp) ?_
 intro s m ha hr hv hG
 have f0 : s 0 = .v (.agg [i64 x.of, i64 x.co, i64 x.bo, i64 x.ep, .b x.he, .b x.fu, i64 x.ag, .b x.go]) := ha 0 _ rfl
 clear ha
 refine AW.sr (cfg := cfg) ?_
 apply aops_step (by decide) rfl
 ·intro K hK
  simp (disch := first | omega | decide) only [go_sem, f0, act_box_t ti36, List.map]
  rw [settleL_vish _ _ (by rfl)]
  simp (disch := first | omega | decide) only [go_sem, f0, cellsL, List.map, List.length_cons, List.length_nil, Nat.reduceAdd, if_true]
  exact hK _
 iterate 1 (apply aops_step (by decide) rfl; · (intro K hK; simp (disch := first | omega | decide) only [go_sem, f0]; exact hK _))
 refine aops_nil ?_
 refine AW.sr (cfg := cfg) ?_
 refine aops_fl (by decide) (by decide) fo36_0 ti3 (by simp only [go_sem, f0]; rfl) (by simp only [go_sem, f0]; rfl) (by rfl) ?_
 apply aops_step (by decide) rfl
 ·intro K hK
  simp (disch := first | omega | decide) only [go_sem, f0, act_call, List.map]
  apply mwp_call_s rfl rfl rfl
  ·intro Q hQ
   (simp (disch := first | omega | decide) only [go_sem, f0, peekL, reifyL_nil, reifyL_cons, reify_v]; (exact hQ))
  ·exact good_within _ _ _
  ·simp [-List.map_take, -List.map_drop, -List.map_append, -List.map_replicate, -List.reduceReplicate, noPtrL, noPtr, noPtrL_bsl, noPtrL_map, sub]
  ·rfl
  ·exact hK _
 iterate 1 (apply aops_step (by decide) rfl; · (intro K hK; simp (disch := first | omega | decide) only [go_sem, f0]; exact hK _))
 refine aops_flm (dg := 7) (by decide) (by decide) (by decide) fo36_1 ti3 rfl (by simp only [go_sem, f0]; rfl) (by simp only [go_sem, f0]; rfl) (by simp only [go_sem, f0]; rfl) (by rfl) ?_
 apply aops_merge' (by decide) (by exact want_of (d := 7) rfl (by simp (disch := first | omega | decide) only [go_sem, f0, opn_cond]; rfl))
 ·intro hc K hK
  have hc2 := hc
  simp only [beq_iff_eq, decide_eq_true_eq, decide_eq_false_iff_not, Bool.or_eq_true, Bool.and_eq_true, Bool.or_eq_false_iff, Bool.and_eq_false_iff] at hc2
  simp (disch := first | omega | decide) only [go_sem, f0, opn_cond, hc, if_true, act_call, List.map]
  apply mwp_call_s rfl rfl rfl
  ·intro Q hQ
   (simp (disch := first | omega | decide) only [go_sem, f0, opn_cond, hc, if_true, peekL, reifyL_nil, reifyL_cons, reify_v]; (exact hQ))
  ·exact good_within _ _ _
  ·simp [-List.map_take, -List.map_drop, -List.map_append, -List.map_replicate, -List.reduceReplicate, noPtrL, noPtr, noPtrL_bsl, noPtrL_map, sub]
  ·rfl
  ·exact hK _
 iterate 2 (apply aops_step (by decide) rfl; · (intro K hK; simp (disch := first | omega | decide) only [go_sem, f0]; exact hK _))
 refine aops_flm (dg := 12) (by decide) (by decide) (by decide) fo36_2 ti3 rfl (by simp only [go_sem, f0]; rfl) (by simp only [go_sem, f0]; rfl) (by simp only [go_sem, f0]; rfl) (by rfl) ?_
 apply aops_merge' (by decide) (by exact want_of (d := 12) rfl (by simp (disch := first | omega | decide) only [go_sem, f0, opn_cond]; rfl))
 ·intro hc K hK
  have hc2 := hc
  simp only [beq_iff_eq, decide_eq_true_eq, decide_eq_false_iff_not, Bool.or_eq_true, Bool.and_eq_true, Bool.or_eq_false_iff, Bool.and_eq_false_iff] at hc2
  simp (disch := first | omega | decide) only [go_sem, f0, opn_cond, hc, if_true, act_call, List.map]
  apply mwp_call_s rfl rfl rfl
  ·intro Q hQ
   (simp (disch := first | omega | decide) only [go_sem, f0, opn_cond, hc, if_true, peekL, reifyL_nil, reifyL_cons, reify_v]; (exact hQ))
  ·exact good_within _ _ _
  ·simp [-List.map_take, -List.map_drop, -List.map_append, -List.map_replicate, -List.reduceReplicate, noPtrL, noPtr, noPtrL_bsl, noPtrL_map, sub]
  ·rfl
  ·exact hK _
 iterate 2 (apply aops_step (by decide) rfl; · (intro K hK; simp (disch := first | omega | decide) only [go_sem, f0]; exact hK _))
 refine aops_flm (dg := 17) (by decide) (by decide) (by decide) fo36_3 ti3 rfl (by simp only [go_sem, f0]; rfl) (by simp only [go_sem, f0]; rfl) (by simp only [go_sem, f0]; rfl) (by rfl) ?_
 apply aops_merge' (by decide) (by exact want_of (d := 17) rfl (by simp (disch := first | omega | decide) only [go_sem, f0, opn_cond]; rfl))
 ·intro hc K hK
  have hc2 := hc
  simp only [beq_iff_eq, decide_eq_true_eq, decide_eq_false_iff_not, Bool.or_eq_true, Bool.and_eq_true, Bool.or_eq_false_iff, Bool.and_eq_false_iff] at hc2
  simp (disch := first | omega | decide) only [go_sem, f0, opn_cond, hc, if_true, act_call, List.map]
  apply mwp_call_s rfl rfl rfl
  ·intro Q hQ
   (simp (disch := first | omega | decide) only [go_sem, f0, opn_cond, hc, if_true, peekL, reifyL_nil, reifyL_cons, reify_v]; (exact hQ))
  ·exact good_within _ _ _
  ·simp [-List.map_take, -List.map_drop, -List.map_append, -List.map_replicate, -List.reduceReplicate, noPtrL, noPtr, noPtrL_bsl, noPtrL_map, sub]
  ·rfl
  ·exact hK _
 iterate 2 (apply aops_step (by decide) rfl; · (intro K hK; simp (disch := first | omega | decide) only [go_sem, f0]; exact hK _))
 refine aops_flm (dg := 22) (by decide) (by decide) (by decide) fo36_6 ti3 rfl (by simp only [go_sem, f0]; rfl) (by simp only [go_sem, f0]; rfl) (by simp only [go_sem, f0]; rfl) (by rfl) ?_
 apply aops_merge' (by decide) (by exact want_of (d := 22) rfl (by simp (disch := first | omega | decide) only [go_sem, f0, opn_cond]; rfl))
 ·intro hc K hK
  have hc2 := hc
  simp only [beq_iff_eq, decide_eq_true_eq, decide_eq_false_iff_not, Bool.or_eq_true, Bool.and_eq_true, Bool.or_eq_false_iff, Bool.and_eq_false_iff] at hc2
  simp (disch := first | omega | decide) only [go_sem, f0, opn_cond, hc, if_true, act_call, List.map]
  apply mwp_call_s rfl rfl rfl
  ·intro Q hQ
   (simp (disch := first | omega | decide) only [go_sem, f0, opn_cond, hc, if_true, peekL, reifyL_nil, reifyL_cons, reify_v]; (exact hQ))
  ·exact good_within _ _ _
  ·simp [-List.map_take, -List.map_drop, -List.map_append, -List.map_replicate, -List.reduceReplicate, noPtrL, noPtr, noPtrL_bsl, noPtrL_map, sub]
  ·rfl
  ·exact hK _
 iterate 2 (apply aops_step (by decide) rfl; · (intro K hK; simp (disch := first | omega | decide) only [go_sem, f0]; exact hK _))
 refine aops_nil ?_
 refine AW.seq ?_
 refine AW.sr (cfg := cfg) ?_
 refine aops_fl (by decide) (by decide) fo36_4 ti4 (by simp only [go_sem, f0]; rfl) (by simp only [go_sem, f0]; rfl) (by rfl) ?_
 iterate 1 (apply aops_step (by decide) rfl; · (intro K hK; simp (disch := first | omega | decide) only [go_sem, f0]; exact hK _))
 refine aops_flm (dg := 29) (by decide) (by decide) (by decide) fo36_2 ti3 rfl (by simp only [go_sem, f0]; rfl) (by simp only [go_sem, f0]; rfl) (by simp only [go_sem, f0]; rfl) (by rfl) ?_
 apply aops_merge' (by decide) (by exact want_of (d := 29) rfl (by simp (disch := first | omega | decide) only [go_sem, f0, opn_cond]; rfl))
 ·intro hc K hK
  simp (disch := first | omega | decide) only [go_sem, f0, opn_cond, hc, if_true]
  exact hK _
 apply aops_merge' (by decide) (by exact want_of (d := 29) rfl (by simp (disch := first | omega | decide) only [go_sem, f0, opn_cond]; rfl))
 ·intro hc K hK
  simp (disch := first | omega | decide) only [go_sem, f0, opn_cond, hc, if_true]
  exact hK _
 refine aops_flc (dg := 33) (by decide) (by decide) (by decide) fo36_1 ti3 rfl (by simp only [go_sem, f0]; rfl) (by simp only [go_sem, f0]; rfl) (by simp only [go_sem, f0]; rfl) (by rfl) ?_
 apply aops_merge' (by decide) (by exact want_of_cond (d := 33) rfl (by simp (disch := first | omega | decide) only [go_sem, f0, opn_cond]; rfl))
 ·intro hc K hK
  simp (disch := first | omega | decide) only [go_sem, f0, opn_cond, hc, if_true]
  exact hK _
 apply aops_merge' (by decide) (by exact want_of (d := 29) rfl (by simp (disch := first | omega | decide) only [go_sem, f0, opn_cond]; rfl))
 ·intro hc K hK
  simp (disch := first | omega | decide) only [go_sem, f0, opn_cond, hc, if_true]
  exact hK _
 iterate 2 (apply aops_step (by decide) rfl; · (intro K hK; simp (disch := first | omega | decide) only [go_sem, f0]; exact hK _))
 refine aops_flm (dg := 39) (by decide) (by decide) (by decide) fo36_4 ti4 rfl (by simp only [go_sem, f0]; rfl) (by simp only [go_sem, f0]; rfl) (by simp only [go_sem, f0]; rfl) (by rfl) ?_
 apply aops_merge' (by decide) (by exact want_of (d := 39) rfl (by simp (disch := first | omega | decide) only [go_sem, f0, opn_cond]; rfl))
 ·intro hc K hK
  simp (disch := first | omega | decide) only [go_sem, f0, opn_cond, hc, if_true]
  exact hK _
 apply aops_merge' (by decide) (by exact want_of (d := 39) rfl (by simp (disch := first | omega | decide) only [go_sem, f0, opn_cond]; rfl))
 ·intro hc K hK
  simp (disch := first | omega | decide) only [go_sem, f0, opn_cond, hc, if_true]
  exact hK _
 refine aops_flc (dg := 43) (by decide) (by decide) (by decide) fo36_6 ti3 rfl (by simp only [go_sem, f0]; rfl) (by simp only [go_sem, f0]; rfl) (by simp only [go_sem, f0]; rfl) (by rfl) ?_
 apply aops_merge' (by decide) (by exact want_of_cond (d := 43) rfl (by simp (disch := first | omega | decide) only [go_sem, f0, opn_cond]; rfl))
 ·intro hc K hK
  simp (disch := first | omega | decide) only [go_sem, f0, opn_cond, hc, if_true]
  exact hK _
 apply aops_merge' (by decide) (by exact want_of (d := 39) rfl (by simp (disch := first | omega | decide) only [go_sem, f0, opn_cond]; rfl))
 ·intro hc K hK
  simp (disch := first | omega | decide) only [go_sem, f0, opn_cond, hc, if_true]
  exact hK _
 iterate 2 (apply aops_step (by decide) rfl; · (intro K hK; simp (disch := first | omega | decide) only [go_sem, f0]; exact hK _))
 refine aops_flm (dg := 49) (by decide) (by decide) (by decide) fo36_5 ti4 rfl (by simp only [go_sem, f0]; rfl) (by simp only [go_sem, f0]; rfl) (by simp only [go_sem, f0]; rfl) (by rfl) ?_
 apply aops_merge' (by decide) (by exact want_of (d := 49) rfl (by simp (disch := first | omega | decide) only [go_sem, f0, opn_cond]; rfl))
 ·intro hc K hK
  simp (disch := first | omega | decide) only [go_sem, f0, opn_cond, hc, if_true]
  exact hK _
 refine aops_flc (dg := 52) (by decide) (by decide) (by decide) fo36_4 ti4 rfl (by simp only [go_sem, f0]; rfl) (by simp only [go_sem, f0]; rfl) (by simp only [go_sem, f0]; rfl) (by rfl) ?_
 apply aops_merge' (by decide) (by exact want_of_cond (d := 52) rfl (by simp (disch := first | omega | decide) only [go_sem, f0, opn_cond]; rfl))
 ·intro hc K hK
  simp (disch := first | omega | decide) only [go_sem, f0, opn_cond, hc, if_true]
  exact hK _
 apply aops_merge' (by decide) (by exact want_of (d := 49) rfl (by simp (disch := first | omega | decide) only [go_sem, f0, opn_cond]; rfl))
 ·intro hc K hK
  simp (disch := first | omega | decide) only [go_sem, f0, opn_cond, hc, if_true]
  exact hK _
 iterate 2 (apply aops_step (by decide) rfl; · (intro K hK; simp (disch := first | omega | decide) only [go_sem, f0]; exact hK _))
 refine aops_flm (dg := 58) (by decide) (by decide) (by decide) fo36_7 ti4 rfl (by simp only [go_sem, f0]; rfl) (by simp only [go_sem, f0]; rfl) (by simp only [go_sem, f0]; rfl) (by rfl) ?_
 apply aops_merge' (by decide) (by exact want_of (d := 58) rfl (by simp (disch := first | omega | decide) only [go_sem, f0, opn_cond]; rfl))
 ·intro hc K hK
  simp (disch := first | omega | decide) only [go_sem, f0, opn_cond, hc, if_true]
  exact hK _
 refine aops_flc (dg := 61) (by decide) (by decide) (by decide) fo36_5 ti4 rfl (by simp only [go_sem, f0]; rfl) (by simp only [go_sem, f0]; rfl) (by simp only [go_sem, f0]; rfl) (by rfl) ?_
 apply aops_merge' (by decide) (by exact want_of_cond (d := 61) rfl (by simp (disch := first | omega | decide) only [go_sem, f0, opn_cond]; rfl))
 ·intro hc K hK
  simp (disch := first | omega | decide) only [go_sem, f0, opn_cond, hc, if_true]
  exact hK _
 apply aops_merge' (by decide) (by exact want_of (d := 58) rfl (by simp (disch := first | omega | decide) only [go_sem, f0, opn_cond]; rfl))
 ·intro hc K hK
  simp (disch := first | omega | decide) only [go_sem, f0, opn_cond, hc, if_true]
  exact hK _
 iterate 2 (apply aops_step (by decide) rfl; · (intro K hK; simp (disch := first | omega | decide) only [go_sem, f0]; exact hK _))
 apply aops_merge' (by decide) (by exact want_of (d := 67) rfl (by simp only [go_sem, f0, opn_cond]; rfl))
 ·intro hc K hK
  simp (disch := first | omega | decide) only [go_sem, f0, opn_cond, hc, if_true]
  exact hK _
 apply aops_merge' (by decide) (by exact want_of (d := 67) rfl (by simp (disch := first | omega | decide) only [go_sem, f0, opn_cond]; rfl))
 ·intro hc K hK
  simp (disch := first | omega | decide) only [go_sem, f0, opn_cond, hc, if_true]
  exact hK _
 iterate 1 (apply aops_step (by decide) rfl; · (intro K hK; simp (disch := first | omega | decide) only [go_sem, f0]; exact hK _))
 refine aops_nil ?_
 apply AW.cond
 ·(simp only [go_sem, f0]; rfl)
 case ht =>
  intro hb
  try simp only [bo1, bo2, bo3, bo4, bo5, bo6] at hb
  have hbt70 := hb
  refine AW.sr (cfg := cfg) ?_
  iterate 1 (apply aops_step (by decide) rfl; · (intro K hK; simp (disch := first | omega | decide) only [go_sem, f0]; exact hK _))
  refine aops_nil ?_
  refine AW.ret ?_
  refine ⟨.inr rfl, ?_⟩
  refine leaves_tmp1 2 rfl ?_ (by exact hG)
  simp (disch := first | omega | decide) only [go_sem, f0]
  clear hr hv hG f0
  obtain ⟨of, co, bo, ep, he, fu, ag, go⟩ := x
  all_goals (cases he <;> cases fu <;> cases go <;> simp_all [chk, bad, okA, wi] <;> first | done | omega | (rw [Bool.eq_iff_iff]; simp; omega) | (split <;> simp_all <;> omega) | grind | trace_state)
 case hf =>
  intro hb
  try simp only [bo1, bo2, bo3, bo4, bo5, bo6] at hb
  have hbt70 := hb
  refine AW.skip ?_
  refine AW.sr (cfg := cfg) ?_
  iterate 1 (apply aops_step (by decide) rfl; · (intro K hK; simp (disch := first | omega | decide) only [go_sem, f0]; exact hK _))
  refine aops_nil ?_
  refine AW.ret ?_
  refine ⟨.inr rfl, ?_⟩
  refine leaves_tmp1 2 rfl ?_ (by exact hG)
  simp (disch := first | omega | decide) only [go_sem, f0]
  clear hr hv hG f0
  obtain ⟨of, co, bo, ep, he, fu, ag, go⟩ := x
  all_goals (cases he <;> cases fu <;> cases go <;> simp_all [chk, bad, okA, wi] <;> first | done | omega | (rw [Bool.eq_iff_iff]; simp; omega) | (split <;> simp_all <;> omega) | grind | trace_state)

set_option maxHeartbeats 4000000 in
set_option maxRecDepth 100000 in
theorem good_mayN (x : Nr) : Good Try.prog 17 [(nrA x, false)] [] [(.b (!bad x), false)] [] := by
 refine good_of_body2 83 Try.func17 rfl rfl rfl (by simp) ?_
 intro s m ha hr hv hG
 have f0 : s 0 = .v (.agg [i64 x.of, i64 x.co, i64 x.bo, i64 x.ep, .b x.he, .b x.fu, i64 x.ag, .b x.go]) := ha 0 _ rfl
 clear ha
 refine AW.sr (cfg := cfg) ?_
 apply aops_step (by decide) rfl
 ·intro K hK
  simp (disch := first | omega | decide) only [go_sem, f0, act_box_t ti36, List.map]
  rw [settleL_vish _ _ (by rfl)]
  simp (disch := first | omega | decide) only [go_sem, f0, cellsL, List.map, List.length_cons, List.length_nil, Nat.reduceAdd, if_true]
  exact hK _
 iterate 1 (apply aops_step (by decide) rfl; · (intro K hK; simp (disch := first | omega | decide) only [go_sem, f0]; exact hK _))
 refine aops_nil ?_
 refine AW.seq ?_
 refine AW.sr (cfg := cfg) ?_
 refine aops_fl (by decide) (by decide) fo36_0 ti3 (by simp only [go_sem, f0]; rfl) (by simp only [go_sem, f0]; rfl) (by rfl) ?_
 iterate 2 (apply aops_step (by decide) rfl; · (intro K hK; simp (disch := first | omega | decide) only [go_sem, f0]; exact hK _))
 refine aops_flm (dg := 6) (by decide) (by decide) (by decide) fo36_0 ti3 rfl (by simp only [go_sem, f0]; rfl) (by simp only [go_sem, f0]; rfl) (by simp only [go_sem, f0]; rfl) (by rfl) ?_
 apply aops_merge' (by decide) (by exact want_of (d := 6) rfl (by simp (disch := first | omega | decide) only [go_sem, f0, opn_cond]; rfl))
 ·intro hc K hK
  simp (disch := first | omega | decide) only [go_sem, f0, opn_cond, hc, if_true]
  exact hK _
 iterate 2 (apply aops_step (by decide) rfl; · (intro K hK; simp (disch := first | omega | decide) only [go_sem, f0]; exact hK _))
 refine aops_flm (dg := 11) (by decide) (by decide) (by decide) fo36_1 ti3 rfl (by simp only [go_sem, f0]; rfl) (by simp only [go_sem, f0]; rfl) (by simp only [go_sem, f0]; rfl) (by rfl) ?_
 apply aops_merge' (by decide) (by exact want_of (d := 11) rfl (by simp (disch := first | omega | decide) only [go_sem, f0, opn_cond]; rfl))
 ·intro hc K hK
  simp (disch := first | omega | decide) only [go_sem, f0, opn_cond, hc, if_true]
  exact hK _
 iterate 2 (apply aops_step (by decide) rfl; · (intro K hK; simp (disch := first | omega | decide) only [go_sem, f0]; exact hK _))
 refine aops_flm (dg := 16) (by decide) (by decide) (by decide) fo36_1 ti3 rfl (by simp only [go_sem, f0]; rfl) (by simp only [go_sem, f0]; rfl) (by simp only [go_sem, f0]; rfl) (by rfl) ?_
 apply aops_merge' (by decide) (by exact want_of (d := 16) rfl (by simp (disch := first | omega | decide) only [go_sem, f0, opn_cond]; rfl))
 ·intro hc K hK
  simp (disch := first | omega | decide) only [go_sem, f0, opn_cond, hc, if_true]
  exact hK _
 iterate 2 (apply aops_step (by decide) rfl; · (intro K hK; simp (disch := first | omega | decide) only [go_sem, f0]; exact hK _))
 refine aops_flm (dg := 21) (by decide) (by decide) (by decide) fo36_2 ti3 rfl (by simp only [go_sem, f0]; rfl) (by simp only [go_sem, f0]; rfl) (by simp only [go_sem, f0]; rfl) (by rfl) ?_
 apply aops_merge' (by decide) (by exact want_of (d := 21) rfl (by simp (disch := first | omega | decide) only [go_sem, f0, opn_cond]; rfl))
 ·intro hc K hK
  simp (disch := first | omega | decide) only [go_sem, f0, opn_cond, hc, if_true]
  exact hK _
 iterate 2 (apply aops_step (by decide) rfl; · (intro K hK; simp (disch := first | omega | decide) only [go_sem, f0]; exact hK _))
 refine aops_flm (dg := 26) (by decide) (by decide) (by decide) fo36_2 ti3 rfl (by simp only [go_sem, f0]; rfl) (by simp only [go_sem, f0]; rfl) (by simp only [go_sem, f0]; rfl) (by rfl) ?_
 apply aops_merge' (by decide) (by exact want_of (d := 26) rfl (by simp (disch := first | omega | decide) only [go_sem, f0, opn_cond]; rfl))
 ·intro hc K hK
  simp (disch := first | omega | decide) only [go_sem, f0, opn_cond, hc, if_true]
  exact hK _
 iterate 2 (apply aops_step (by decide) rfl; · (intro K hK; simp (disch := first | omega | decide) only [go_sem, f0]; exact hK _))
 refine aops_flm (dg := 31) (by decide) (by decide) (by decide) fo36_3 ti3 rfl (by simp only [go_sem, f0]; rfl) (by simp only [go_sem, f0]; rfl) (by simp only [go_sem, f0]; rfl) (by rfl) ?_
 apply aops_merge' (by decide) (by exact want_of (d := 31) rfl (by simp (disch := first | omega | decide) only [go_sem, f0, opn_cond]; rfl))
 ·intro hc K hK
  simp (disch := first | omega | decide) only [go_sem, f0, opn_cond, hc, if_true]
  exact hK _
 iterate 2 (apply aops_step (by decide) rfl; · (intro K hK; simp (disch := first | omega | decide) only [go_sem, f0]; exact hK _))
 refine aops_flm (dg := 36) (by decide) (by decide) (by decide) fo36_3 ti3 rfl (by simp only [go_sem, f0]; rfl) (by simp only [go_sem, f0]; rfl) (by simp only [go_sem, f0]; rfl) (by rfl) ?_
 apply aops_merge' (by decide) (by exact want_of (d := 36) rfl (by simp (disch := first | omega | decide) only [go_sem, f0, opn_cond]; rfl))
 ·intro hc K hK
  simp (disch := first | omega | decide) only [go_sem, f0, opn_cond, hc, if_true]
  exact hK _
 iterate 2 (apply aops_step (by decide) rfl; · (intro K hK; simp (disch := first | omega | decide) only [go_sem, f0]; exact hK _))
 refine aops_flm (dg := 41) (by decide) (by decide) (by decide) fo36_6 ti3 rfl (by simp only [go_sem, f0]; rfl) (by simp only [go_sem, f0]; rfl) (by simp only [go_sem, f0]; rfl) (by rfl) ?_
 apply aops_merge' (by decide) (by exact want_of (d := 41) rfl (by simp (disch := first | omega | decide) only [go_sem, f0, opn_cond]; rfl))
 ·intro hc K hK
  simp (disch := first | omega | decide) only [go_sem, f0, opn_cond, hc, if_true]
  exact hK _
 iterate 2 (apply aops_step (by decide) rfl; · (intro K hK; simp (disch := first | omega | decide) only [go_sem, f0]; exact hK _))
 refine aops_flm (dg := 46) (by decide) (by decide) (by decide) fo36_6 ti3 rfl (by simp only [go_sem, f0]; rfl) (by simp only [go_sem, f0]; rfl) (by simp only [go_sem, f0]; rfl) (by rfl) ?_
 apply aops_merge' (by decide) (by exact want_of (d := 46) rfl (by simp (disch := first | omega | decide) only [go_sem, f0, opn_cond]; rfl))
 ·intro hc K hK
  simp (disch := first | omega | decide) only [go_sem, f0, opn_cond, hc, if_true]
  exact hK _
 iterate 1 (apply aops_step (by decide) rfl; · (intro K hK; simp (disch := first | omega | decide) only [go_sem, f0]; exact hK _))
 refine aops_nil ?_
 apply AW.cond
 ·(simp only [go_sem, f0]; rfl)
 case ht =>
  intro hb
  try simp only [bo1, bo2, bo3, bo4, bo5, bo6] at hb
  have hbt50 := hb
  refine AW.sr (cfg := cfg) ?_
  iterate 1 (apply aops_step (by decide) rfl; · (intro K hK; simp (disch := first | omega | decide) only [go_sem, f0]; exact hK _))
  refine aops_nil ?_
  refine AW.ret ?_
  refine ⟨.inr rfl, ?_⟩
  refine leaves_tmp1 2 rfl ?_ (by exact hG)
  simp (disch := first | omega | decide) only [go_sem, f0]
  clear hr hv hG f0
  obtain ⟨of, co, bo, ep, he, fu, ag, go⟩ := x
  all_goals (cases he <;> cases fu <;> cases go <;> simp_all [chk, bad, okA, wi] <;> omega)
 case hf =>
  intro hb
  try simp only [bo1, bo2, bo3, bo4, bo5, bo6] at hb
  have hbt50 := hb
  refine AW.skip ?_
  refine AW.seq ?_
  refine AW.sr (cfg := cfg) ?_
  refine aops_fl (by decide) (by decide) fo36_4 ti4 (by simp only [go_sem, f0]; rfl) (by simp only [go_sem, f0]; rfl) (by rfl) ?_
  refine aops_nil ?_
  apply AW.cond
  ·(simp only [go_sem, f0]; rfl)
  case ht =>
   intro hb
   try simp only [bo1, bo2, bo3, bo4, bo5, bo6] at hb
   have hbt52 := hb
   refine AW.sr (cfg := cfg) ?_
   refine aops_fl (by decide) (by decide) fo36_2 ti3 (by simp only [go_sem, f0]; rfl) (by simp only [go_sem, f0]; rfl) (by rfl) ?_
   iterate 2 (apply aops_step (by decide) rfl; · (intro K hK; simp (disch := first | omega | decide) only [go_sem, f0]; exact hK _))
   refine aops_flm (dg := 56) (by decide) (by decide) (by decide) fo36_1 ti3 rfl (by simp only [go_sem, f0]; rfl) (by simp only [go_sem, f0]; rfl) (by simp only [go_sem, f0]; rfl) (by rfl) ?_
   apply aops_merge' (by decide) (by exact want_of (d := 56) rfl (by simp (disch := first | omega | decide) only [go_sem, f0, opn_cond]; rfl))
   ·intro hc K hK
    simp (disch := first | omega | decide) only [go_sem, f0, opn_cond, hc, if_true]
    exact hK _
   iterate 2 (apply aops_step (by decide) rfl; · (intro K hK; simp (disch := first | omega | decide) only [go_sem, f0]; exact hK _))
   refine aops_flm (dg := 61) (by decide) (by decide) (by decide) fo36_5 ti4 rfl (by simp only [go_sem, f0]; rfl) (by simp only [go_sem, f0]; rfl) (by simp only [go_sem, f0]; rfl) (by rfl) ?_
   apply aops_merge' (by decide) (by exact want_of (d := 61) rfl (by simp (disch := first | omega | decide) only [go_sem, f0, opn_cond]; rfl))
   ·intro hc K hK
    simp (disch := first | omega | decide) only [go_sem, f0, opn_cond, hc, if_true]
    exact hK _
   refine aops_flc (dg := 64) (by decide) (by decide) (by decide) fo36_7 ti4 rfl (by simp only [go_sem, f0]; rfl) (by simp only [go_sem, f0]; rfl) (by simp only [go_sem, f0]; rfl) (by rfl) ?_
   apply aops_merge' (by decide) (by exact want_of_cond (d := 64) rfl (by simp (disch := first | omega | decide) only [go_sem, f0, opn_cond]; rfl))
   ·intro hc K hK
    simp (disch := first | omega | decide) only [go_sem, f0, opn_cond, hc, if_true]
    exact hK _
   apply aops_merge' (by decide) (by exact want_of (d := 61) rfl (by simp (disch := first | omega | decide) only [go_sem, f0, opn_cond]; rfl))
   ·intro hc K hK
    simp (disch := first | omega | decide) only [go_sem, f0, opn_cond, hc, if_true]
    exact hK _
   iterate 2 (apply aops_step (by decide) rfl; · (intro K hK; simp (disch := first | omega | decide) only [go_sem, f0]; exact hK _))
   refine aops_nil ?_
   refine AW.ret ?_
   refine ⟨.inr rfl, ?_⟩
   refine leaves_tmp1 2 rfl ?_ (by exact hG)
   simp (disch := first | omega | decide) only [go_sem, f0]
   clear hr hv hG f0
   obtain ⟨of, co, bo, ep, he, fu, ag, go⟩ := x
   all_goals (cases he <;> cases fu <;> cases go <;> simp_all [chk, bad, okA, wi] <;> (rw [Bool.eq_iff_iff]; simp; omega))
  case hf =>
   intro hb
   try simp only [bo1, bo2, bo3, bo4, bo5, bo6] at hb
   have hbt52 := hb
   refine AW.skip ?_
   refine AW.sr (cfg := cfg) ?_
   refine aops_fl (by decide) (by decide) fo36_6 ti3 (by simp only [go_sem, f0]; rfl) (by simp only [go_sem, f0]; rfl) (by rfl) ?_
   iterate 2 (apply aops_step (by decide) rfl; · (intro K hK; simp (disch := first | omega | decide) only [go_sem, f0]; exact hK _))
   refine aops_flm (dg := 73) (by decide) (by decide) (by decide) fo36_5 ti4 rfl (by simp only [go_sem, f0]; rfl) (by simp only [go_sem, f0]; rfl) (by simp only [go_sem, f0]; rfl) (by rfl) ?_
   apply aops_merge' (by decide) (by exact want_of (d := 73) rfl (by simp (disch := first | omega | decide) only [go_sem, f0, opn_cond]; rfl))
   ·intro hc K hK
    simp (disch := first | omega | decide) only [go_sem, f0, opn_cond, hc, if_true]
    exact hK _
   iterate 2 (apply aops_step (by decide) rfl; · (intro K hK; simp (disch := first | omega | decide) only [go_sem, f0]; exact hK _))
   refine aops_flm (dg := 78) (by decide) (by decide) (by decide) fo36_7 ti4 rfl (by simp only [go_sem, f0]; rfl) (by simp only [go_sem, f0]; rfl) (by simp only [go_sem, f0]; rfl) (by rfl) ?_
   apply aops_merge' (by decide) (by exact want_of (d := 78) rfl (by simp (disch := first | omega | decide) only [go_sem, f0, opn_cond]; rfl))
   ·intro hc K hK
    simp (disch := first | omega | decide) only [go_sem, f0, opn_cond, hc, if_true]
    exact hK _
   iterate 2 (apply aops_step (by decide) rfl; · (intro K hK; simp (disch := first | omega | decide) only [go_sem, f0]; exact hK _))
   refine aops_nil ?_
   refine AW.ret ?_
   refine ⟨.inr rfl, ?_⟩
   refine leaves_tmp1 2 rfl ?_ (by exact hG)
   simp (disch := first | omega | decide) only [go_sem, f0]
   clear hr hv hG f0
   obtain ⟨of, co, bo, ep, he, fu, ag, go⟩ := x
   all_goals (cases he <;> cases fu <;> cases go <;> simp_all [chk, bad, okA, wi] <;> (rw [Bool.eq_iff_iff]; simp; omega))

end Go.Vai.T
