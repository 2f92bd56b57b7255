import Derived.Test.YtphmphdckkhblaaOctW2
namespace Go.Vai.O
open Go.Proofs Go.Vai
set_option linter.unusedSimpArgs false
set_option linter.unusedVariables false
theorem ti70 : tiOf Try.prog 70 = some ⟨4, 64, [.sl 0 true [], .base (.int .i64 0), .base (.int .u64 0), .sl 0 true []], true⟩ := by kernel_rfl
theorem fo70_0 : fieldOf Try.prog 70 0 = some (0, 1) := by kernel_rfl
theorem fo70_1 : fieldOf Try.prog 70 1 = some (1, 1) := by kernel_rfl
theorem fo70_2 : fieldOf Try.prog 70 2 = some (2, 1) := by kernel_rfl
theorem ti68 : tiOf Try.prog 68 = some ⟨1, 8, [.base (.int .u64 0)], false⟩ := by kernel_rfl
theorem fo70_3 : fieldOf Try.prog 70 3 = some (3, 1) := by kernel_rfl

theorem numS_R {w : Int} (n : Int) (h : mayW w = true) : numS w n = numR n w.toNat := by rw [numS_is h]; exact numB_numR n _
theorem txO_ok {t : List (BitVec 8)} (h : t.length ≤ 65535) : txO t = true := by simp [txO]; omega
theorem txR_ok {l t : List (BitVec 8)} (h : t.length ≤ 65535) : txR l t = l ++ (numR (t.length : Int) 2 ++ t) := by rw [txR, txO_ok h, if_pos rfl, numS2, List.append_assoc]
set_option maxHeartbeats 4000000 in
set_option maxRecDepth 100000 in
theorem good_puts (nil : Bool) (l : List (BitVec 8)) (w n : Int) (nt : Bool) (t : List (BitVec 8)) (hl : l.length ≤ 9223372036854775807) (hz : nil = true → l = []) (hn : 0 ≤ n ∧ n < 18446744073709551616) (ht : t.length ≤ 9223372036854775807) (hzt : nt = true → t = []) : Good Try.prog 39 [(.sl 1 nil (bsl l), false), (i64 w, false), (.i .u64 n, false), (.sl 1 nt (bsl t), false)] [] [(.b true, false)] [] := by
  refine good_of_body2 65 Try.func39 rfl rfl rfl (by simp) ?_
  intro s m ha hr hv hG
  have f0 : s 0 = .v (.sl 1 nil (bsl l)) := ha 0 _ rfl
  have f1 : s 1 = .v (i64 w) := ha 1 _ rfl
  have f2 : s 2 = .v (.i .u64 n) := ha 2 _ rfl
  have f3 : s 3 = .v (.sl 1 nt (bsl t)) := ha 3 _ rfl
  clear ha
  refine AW.seq ?_
  refine AW.region (cfg := cfg) ?_
  iterate 1 (apply aops_step (by decide) rfl; · (intro K hK; simp (disch := first | omega | decide) only [go_sem, f0, f1, f2, f3, decide_true, eq_self, List.append_nil]; exact hK _))
  refine aops_nil ?_
  refine AW.seq ?_
  refine AW.seq ?_
  refine AW.region (cfg := cfg) ?_
  iterate 4 (apply aops_step (by decide) rfl; · (intro K hK; simp (disch := first | omega | decide) only [go_sem, f0, f1, f2, f3, List.map, List.length_map, aops_len u22, decide_true, eq_self, List.append_nil]; exact hK _))
  apply aops_merge' (by decide) (by first | exact want_of (d := 16) rfl (by simp (disch := first | omega | decide) only [go_sem, f0, f1, f2, f3, opn_cond, decide_true, eq_self, List.append_nil]; rfl) | exact want_of_cond (d := 16) rfl (by simp (disch := first | omega | decide) only [go_sem, f0, f1, f2, f3, opn_cond, decide_true, eq_self, List.append_nil]; rfl))
  · intro hc K hK
    have hc2 := hc
    simp only [beq_iff_eq, decide_eq_true_eq, decide_eq_false_iff_not, Bool.or_eq_true, Bool.and_eq_true, Bool.or_eq_false_iff, Bool.and_eq_false_iff] at hc2
    simp (disch := first | omega | decide) only [go_sem, f0, f1, f2, f3, opn_cond, hc, if_true, decide_true, eq_self, List.append_nil]
    exact hK _
  apply aops_merge' (by decide) (by first | exact want_of (d := 16) rfl (by simp (disch := first | omega | decide) only [go_sem, f0, f1, f2, f3, opn_cond, decide_true, eq_self, List.append_nil]; rfl) | exact want_of_cond (d := 16) rfl (by simp (disch := first | omega | decide) only [go_sem, f0, f1, f2, f3, opn_cond, decide_true, eq_self, List.append_nil]; rfl))
  · intro hc K hK
    have hc2 := hc
    simp only [beq_iff_eq, decide_eq_true_eq, decide_eq_false_iff_not, Bool.or_eq_true, Bool.and_eq_true, Bool.or_eq_false_iff, Bool.and_eq_false_iff] at hc2
    simp (disch := first | omega | decide) only [go_sem, f0, f1, f2, f3, opn_cond, hc, if_true, List.map, List.length_map, aops_len u22, decide_true, eq_self, List.append_nil]
    exact hK _
  apply aops_merge' (by decide) (by first | exact want_of (d := 16) rfl (by simp (disch := first | omega | decide) only [go_sem, f0, f1, f2, f3, opn_cond, decide_true, eq_self, List.append_nil]; rfl) | exact want_of_cond (d := 16) rfl (by simp (disch := first | omega | decide) only [go_sem, f0, f1, f2, f3, opn_cond, decide_true, eq_self, List.append_nil]; rfl))
  · intro hc K hK
    have hc2 := hc
    simp only [beq_iff_eq, decide_eq_true_eq, decide_eq_false_iff_not, Bool.or_eq_true, Bool.and_eq_true, Bool.or_eq_false_iff, Bool.and_eq_false_iff] at hc2
    simp (disch := first | omega | decide) only [go_sem, f0, f1, f2, f3, opn_cond, hc, if_true, decide_true, eq_self, List.append_nil]
    exact hK _
  iterate 1 (apply aops_step (by decide) rfl; · (intro K hK; simp (disch := first | omega | decide) only [go_sem, f0, f1, f2, f3, decide_true, eq_self, List.append_nil]; exact hK _))
  refine aops_nil ?_
  apply AW.cond
  · simp (disch := first | omega | decide) only [go_sem, f0, f1, f2, f3, decide_true, eq_self, List.append_nil]; rfl
  case ht =>
    intro hb
    try simp only [Bool.or_eq_true, Bool.and_eq_true, Bool.or_eq_false_iff, Bool.and_eq_false_iff, decide_eq_true_eq, decide_eq_false_iff_not] at hb
    have hbt20 := hb
    refine AW.seq ?_
    refine AW.region (cfg := cfg) ?_
    apply aops_step (by decide) rfl
    · intro K hK
      simp (disch := first | omega | decide) only [go_sem, f0, f1, f2, f3, act_call, List.map, decide_true, eq_self, List.append_nil]
      apply mwp_call_s rfl rfl rfl
      · intro Q hQ
        simp (disch := first | omega | decide) only [go_sem, f0, f1, f2, f3, peekL, reifyL_nil, reifyL_cons, reify_v, decide_true, eq_self, List.append_nil]
        first | exact hQ | (((first | rw [peek_own (by simp (disch := first | omega | decide) only [go_sem, f0, f1, f2, f3, peekL, reifyL_nil, reifyL_cons, reify_v, decide_true, eq_self, List.append_nil]; rfl)] | rw [mwp_reify_own (by simp (disch := first | omega | decide) only [go_sem, f0, f1, f2, f3, peekL, reifyL_nil, reifyL_cons, reify_v, decide_true, eq_self, List.append_nil]; rfl)] | rw [peek_frz (by simp (disch := first | omega | decide) only [go_sem, f0, f1, f2, f3, peekL, reifyL_nil, reifyL_cons, reify_v, decide_true, eq_self, List.append_nil]; rfl)] | rw [reify_frz (by simp (disch := first | omega | decide) only [go_sem, f0, f1, f2, f3, peekL, reifyL_nil, reifyL_cons, reify_v, decide_true, eq_self, List.append_nil]; rfl)]); (try rw [sub_full (by simp [numR_length])])); exact hQ) | (((first | rw [peek_own (by simp (disch := first | omega | decide) only [go_sem, f0, f1, f2, f3, peekL, reifyL_nil, reifyL_cons, reify_v, decide_true, eq_self, List.append_nil]; rfl)] | rw [mwp_reify_own (by simp (disch := first | omega | decide) only [go_sem, f0, f1, f2, f3, peekL, reifyL_nil, reifyL_cons, reify_v, decide_true, eq_self, List.append_nil]; rfl)] | rw [peek_frz (by simp (disch := first | omega | decide) only [go_sem, f0, f1, f2, f3, peekL, reifyL_nil, reifyL_cons, reify_v, decide_true, eq_self, List.append_nil]; rfl)] | rw [reify_frz (by simp (disch := first | omega | decide) only [go_sem, f0, f1, f2, f3, peekL, reifyL_nil, reifyL_cons, reify_v, decide_true, eq_self, List.append_nil]; rfl)]); (try rw [sub_full (by simp [numR_length])])); (try simp (disch := first | omega | decide) only [go_sem, f0, f1, f2, f3, peekL, reifyL_nil, reifyL_cons, reify_v, decide_true, eq_self, List.append_nil]); ((first | rw [peek_own (by simp (disch := first | omega | decide) only [go_sem, f0, f1, f2, f3, peekL, reifyL_nil, reifyL_cons, reify_v, decide_true, eq_self, List.append_nil]; rfl)] | rw [mwp_reify_own (by simp (disch := first | omega | decide) only [go_sem, f0, f1, f2, f3, peekL, reifyL_nil, reifyL_cons, reify_v, decide_true, eq_self, List.append_nil]; rfl)] | rw [peek_frz (by simp (disch := first | omega | decide) only [go_sem, f0, f1, f2, f3, peekL, reifyL_nil, reifyL_cons, reify_v, decide_true, eq_self, List.append_nil]; rfl)] | rw [reify_frz (by simp (disch := first | omega | decide) only [go_sem, f0, f1, f2, f3, peekL, reifyL_nil, reifyL_cons, reify_v, decide_true, eq_self, List.append_nil]; rfl)]); (try rw [sub_full (by simp [numR_length])])); exact hQ) | (((first | rw [peek_own (by simp (disch := first | omega | decide) only [go_sem, f0, f1, f2, f3, peekL, reifyL_nil, reifyL_cons, reify_v, decide_true, eq_self, List.append_nil]; rfl)] | rw [mwp_reify_own (by simp (disch := first | omega | decide) only [go_sem, f0, f1, f2, f3, peekL, reifyL_nil, reifyL_cons, reify_v, decide_true, eq_self, List.append_nil]; rfl)] | rw [peek_frz (by simp (disch := first | omega | decide) only [go_sem, f0, f1, f2, f3, peekL, reifyL_nil, reifyL_cons, reify_v, decide_true, eq_self, List.append_nil]; rfl)] | rw [reify_frz (by simp (disch := first | omega | decide) only [go_sem, f0, f1, f2, f3, peekL, reifyL_nil, reifyL_cons, reify_v, decide_true, eq_self, List.append_nil]; rfl)]); (try rw [sub_full (by simp [numR_length])])); simp (disch := first | omega | decide) only [go_sem, f0, f1, f2, f3, peekL, reifyL_nil, reifyL_cons, reify_v, decide_true, eq_self, List.append_nil]; exact hQ)
      · exact good_awake
      · simp [-List.map_take, -List.map_drop, -List.map_append, noPtrL, noPtr, noPtrL_bsl, noPtrL_map, sub]
      · rfl
      · exact hK _
    iterate 1 (apply aops_step (by decide) rfl; · (intro K hK; simp (disch := first | omega | decide) only [go_sem, f0, f1, f2, f3, decide_true, eq_self, List.append_nil]; exact hK _))
    refine aops_nil ?_
    refine AW.ret ?_
    refine ⟨.inr rfl, ?_⟩
    refine leaves_tmp1 8 rfl ?_ (by first | rfl | exact hG)
    simp (disch := first | omega | decide) only [go_sem, f0, f1, f2, f3, decide_true, eq_self, List.append_nil]
    all_goals trace_state
  case hf =>
    intro hb
    try simp only [Bool.or_eq_true, Bool.and_eq_true, Bool.or_eq_false_iff, Bool.and_eq_false_iff, decide_eq_true_eq, decide_eq_false_iff_not] at hb
    have hbt20 := hb
    refine AW.skip ?_
    refine AW.seq ?_
    refine AW.region (cfg := cfg) ?_
    iterate 3 (apply aops_step (by decide) rfl; · (intro K hK; simp (disch := first | omega | decide) only [go_sem, f0, f1, f2, f3, decide_true, eq_self, List.append_nil]; exact hK _))
    apply aops_step (by decide) rfl
    · intro K hK
      simp (disch := first | omega | decide) only [go_sem, f0, f1, f2, f3, act_call, List.map, decide_true, eq_self, List.append_nil]
      apply mwp_call_r rfl rfl rfl
      · intro Q hQ
        simp (disch := first | omega | decide) only [go_sem, f0, f1, f2, f3, peekL, reifyL_nil, reifyL_cons, reify_v, decide_true, eq_self, List.append_nil]
        first | exact hQ | (((first | rw [peek_own (by simp (disch := first | omega | decide) only [go_sem, f0, f1, f2, f3, peekL, reifyL_nil, reifyL_cons, reify_v, decide_true, eq_self, List.append_nil]; rfl)] | rw [mwp_reify_own (by simp (disch := first | omega | decide) only [go_sem, f0, f1, f2, f3, peekL, reifyL_nil, reifyL_cons, reify_v, decide_true, eq_self, List.append_nil]; rfl)] | rw [peek_frz (by simp (disch := first | omega | decide) only [go_sem, f0, f1, f2, f3, peekL, reifyL_nil, reifyL_cons, reify_v, decide_true, eq_self, List.append_nil]; rfl)] | rw [reify_frz (by simp (disch := first | omega | decide) only [go_sem, f0, f1, f2, f3, peekL, reifyL_nil, reifyL_cons, reify_v, decide_true, eq_self, List.append_nil]; rfl)]); (try rw [sub_full (by simp [numR_length])])); exact hQ) | (((first | rw [peek_own (by simp (disch := first | omega | decide) only [go_sem, f0, f1, f2, f3, peekL, reifyL_nil, reifyL_cons, reify_v, decide_true, eq_self, List.append_nil]; rfl)] | rw [mwp_reify_own (by simp (disch := first | omega | decide) only [go_sem, f0, f1, f2, f3, peekL, reifyL_nil, reifyL_cons, reify_v, decide_true, eq_self, List.append_nil]; rfl)] | rw [peek_frz (by simp (disch := first | omega | decide) only [go_sem, f0, f1, f2, f3, peekL, reifyL_nil, reifyL_cons, reify_v, decide_true, eq_self, List.append_nil]; rfl)] | rw [reify_frz (by simp (disch := first | omega | decide) only [go_sem, f0, f1, f2, f3, peekL, reifyL_nil, reifyL_cons, reify_v, decide_true, eq_self, List.append_nil]; rfl)]); (try rw [sub_full (by simp [numR_length])])); (try simp (disch := first | omega | decide) only [go_sem, f0, f1, f2, f3, peekL, reifyL_nil, reifyL_cons, reify_v, decide_true, eq_self, List.append_nil]); ((first | rw [peek_own (by simp (disch := first | omega | decide) only [go_sem, f0, f1, f2, f3, peekL, reifyL_nil, reifyL_cons, reify_v, decide_true, eq_self, List.append_nil]; rfl)] | rw [mwp_reify_own (by simp (disch := first | omega | decide) only [go_sem, f0, f1, f2, f3, peekL, reifyL_nil, reifyL_cons, reify_v, decide_true, eq_self, List.append_nil]; rfl)] | rw [peek_frz (by simp (disch := first | omega | decide) only [go_sem, f0, f1, f2, f3, peekL, reifyL_nil, reifyL_cons, reify_v, decide_true, eq_self, List.append_nil]; rfl)] | rw [reify_frz (by simp (disch := first | omega | decide) only [go_sem, f0, f1, f2, f3, peekL, reifyL_nil, reifyL_cons, reify_v, decide_true, eq_self, List.append_nil]; rfl)]); (try rw [sub_full (by simp [numR_length])])); exact hQ) | (((first | rw [peek_own (by simp (disch := first | omega | decide) only [go_sem, f0, f1, f2, f3, peekL, reifyL_nil, reifyL_cons, reify_v, decide_true, eq_self, List.append_nil]; rfl)] | rw [mwp_reify_own (by simp (disch := first | omega | decide) only [go_sem, f0, f1, f2, f3, peekL, reifyL_nil, reifyL_cons, reify_v, decide_true, eq_self, List.append_nil]; rfl)] | rw [peek_frz (by simp (disch := first | omega | decide) only [go_sem, f0, f1, f2, f3, peekL, reifyL_nil, reifyL_cons, reify_v, decide_true, eq_self, List.append_nil]; rfl)] | rw [reify_frz (by simp (disch := first | omega | decide) only [go_sem, f0, f1, f2, f3, peekL, reifyL_nil, reifyL_cons, reify_v, decide_true, eq_self, List.append_nil]; rfl)]); (try rw [sub_full (by simp [numR_length])])); simp (disch := first | omega | decide) only [go_sem, f0, f1, f2, f3, peekL, reifyL_nil, reifyL_cons, reify_v, decide_true, eq_self, List.append_nil]; exact hQ)
      · exact good_Num _ _ (by omega) hz _ _ (by omega)
      · simp [-List.map_take, -List.map_drop, -List.map_append, noPtrL, noPtr, noPtrL_bsl, noPtrL_map, sub]
      · rw [resOf_own1 (by simp [Mem.set, hr])]
        exact hK _
    apply aops_step (by decide) rfl
    · intro K hK
      simp (disch := first | omega | decide) only [go_sem, f0, f1, f2, f3, decide_true, eq_self, List.append_nil]
      rw [asg_tmp (by simp (disch := first | omega | decide) only [go_sem, f0, f1, f2, f3, decide_true, eq_self, List.append_nil]; rfl)]
      exact hK _
    refine aops_nil ?_
    refine AW.seq ?_
    refine AW.region (cfg := cfg) ?_
    iterate 2 (apply aops_step (by decide) rfl; · (intro K hK; simp (disch := first | omega | decide) only [go_sem, f0, f1, f2, f3, decide_true, eq_self, List.append_nil]; exact hK _))
    apply aops_step (by decide) rfl
    · intro K hK
      simp (disch := first | omega | decide) only [go_sem, f0, f1, f2, f3, act_call, List.map, decide_true, eq_self, List.append_nil]
      apply mwp_call_r rfl rfl rfl
      · intro Q hQ
        simp (disch := first | omega | decide) only [go_sem, f0, f1, f2, f3, peekL, reifyL_nil, reifyL_cons, reify_v, decide_true, eq_self, List.append_nil]
        first | exact hQ | (((first | rw [peek_own (by simp (disch := first | omega | decide) only [go_sem, f0, f1, f2, f3, peekL, reifyL_nil, reifyL_cons, reify_v, decide_true, eq_self, List.append_nil]; rfl)] | rw [mwp_reify_own (by simp (disch := first | omega | decide) only [go_sem, f0, f1, f2, f3, peekL, reifyL_nil, reifyL_cons, reify_v, decide_true, eq_self, List.append_nil]; rfl)] | rw [peek_frz (by simp (disch := first | omega | decide) only [go_sem, f0, f1, f2, f3, peekL, reifyL_nil, reifyL_cons, reify_v, decide_true, eq_self, List.append_nil]; rfl)] | rw [reify_frz (by simp (disch := first | omega | decide) only [go_sem, f0, f1, f2, f3, peekL, reifyL_nil, reifyL_cons, reify_v, decide_true, eq_self, List.append_nil]; rfl)]); (try rw [sub_full (by simp [numR_length])])); exact hQ) | (((first | rw [peek_own (by simp (disch := first | omega | decide) only [go_sem, f0, f1, f2, f3, peekL, reifyL_nil, reifyL_cons, reify_v, decide_true, eq_self, List.append_nil]; rfl)] | rw [mwp_reify_own (by simp (disch := first | omega | decide) only [go_sem, f0, f1, f2, f3, peekL, reifyL_nil, reifyL_cons, reify_v, decide_true, eq_self, List.append_nil]; rfl)] | rw [peek_frz (by simp (disch := first | omega | decide) only [go_sem, f0, f1, f2, f3, peekL, reifyL_nil, reifyL_cons, reify_v, decide_true, eq_self, List.append_nil]; rfl)] | rw [reify_frz (by simp (disch := first | omega | decide) only [go_sem, f0, f1, f2, f3, peekL, reifyL_nil, reifyL_cons, reify_v, decide_true, eq_self, List.append_nil]; rfl)]); (try rw [sub_full (by simp [numR_length])])); (try simp (disch := first | omega | decide) only [go_sem, f0, f1, f2, f3, peekL, reifyL_nil, reifyL_cons, reify_v, decide_true, eq_self, List.append_nil]); ((first | rw [peek_own (by simp (disch := first | omega | decide) only [go_sem, f0, f1, f2, f3, peekL, reifyL_nil, reifyL_cons, reify_v, decide_true, eq_self, List.append_nil]; rfl)] | rw [mwp_reify_own (by simp (disch := first | omega | decide) only [go_sem, f0, f1, f2, f3, peekL, reifyL_nil, reifyL_cons, reify_v, decide_true, eq_self, List.append_nil]; rfl)] | rw [peek_frz (by simp (disch := first | omega | decide) only [go_sem, f0, f1, f2, f3, peekL, reifyL_nil, reifyL_cons, reify_v, decide_true, eq_self, List.append_nil]; rfl)] | rw [reify_frz (by simp (disch := first | omega | decide) only [go_sem, f0, f1, f2, f3, peekL, reifyL_nil, reifyL_cons, reify_v, decide_true, eq_self, List.append_nil]; rfl)]); (try rw [sub_full (by simp [numR_length])])); exact hQ) | (((first | rw [peek_own (by simp (disch := first | omega | decide) only [go_sem, f0, f1, f2, f3, peekL, reifyL_nil, reifyL_cons, reify_v, decide_true, eq_self, List.append_nil]; rfl)] | rw [mwp_reify_own (by simp (disch := first | omega | decide) only [go_sem, f0, f1, f2, f3, peekL, reifyL_nil, reifyL_cons, reify_v, decide_true, eq_self, List.append_nil]; rfl)] | rw [peek_frz (by simp (disch := first | omega | decide) only [go_sem, f0, f1, f2, f3, peekL, reifyL_nil, reifyL_cons, reify_v, decide_true, eq_self, List.append_nil]; rfl)] | rw [reify_frz (by simp (disch := first | omega | decide) only [go_sem, f0, f1, f2, f3, peekL, reifyL_nil, reifyL_cons, reify_v, decide_true, eq_self, List.append_nil]; rfl)]); (try rw [sub_full (by simp [numR_length])])); simp (disch := first | omega | decide) only [go_sem, f0, f1, f2, f3, peekL, reifyL_nil, reifyL_cons, reify_v, decide_true, eq_self, List.append_nil]; exact hQ)
      · exact good_Text _ _ _ _ (by omega) hz (by omega)
      · simp [-List.map_take, -List.map_drop, -List.map_append, noPtrL, noPtr, noPtrL_bsl, noPtrL_map, sub]
      · rw [resOf_own2 (by simp [Mem.set, hr])]
        exact hK _
    iterate 3 (apply aops_step (by decide) rfl; · (intro K hK; simp (disch := first | omega | decide) only [go_sem, f0, f1, f2, f3, decide_true, eq_self, List.append_nil]; exact hK _))
    apply aops_step (by decide) rfl
    · intro K hK
      simp (disch := first | omega | decide) only [go_sem, f0, f1, f2, f3, decide_true, eq_self, List.append_nil]
      rw [asg_tmp (by simp (disch := first | omega | decide) only [go_sem, f0, f1, f2, f3, decide_true, eq_self, List.append_nil]; rfl)]
      exact hK _
    iterate 1 (apply aops_step (by decide) rfl; · (intro K hK; simp (disch := first | omega | decide) only [go_sem, f0, f1, f2, f3, decide_true, eq_self, List.append_nil]; exact hK _))
    refine aops_nil ?_
    refine AW.seq ?_
    have to := txO_ok (t := t) (by omega)
    have tr := txR_ok (l := l) (t := t) (by omega)
    have eqt : ∀ x : List (BitVec 8), decide (x = x) = true := fun x => decide_eq_true rfl
    refine AW.region (cfg := cfg) ?_
    apply aops_step (by decide) rfl
    · intro K hK
      rw [act_bs el22 ti5]
      first | (simp [-List.map_take, -List.map_drop, -BitVec.toNat_ofInt, -BitVec.ofInt_natCast, go_sem, elems_v, cellishAV, Value.oneCell', isAggAV, partsOf, TI.z, TI.mk1, f0, f1, f2, f3, to, tr, eqt]; exact hK _) | (simp (disch := first | omega | decide) only [go_sem, f0, f1, f2, f3, to, tr, eqt, List.map, elems_cons, decide_true, eq_self, List.append_nil]; rw [if_pos (by decide)]; simp (disch := first | omega | decide) only [go_sem, f0, f1, f2, f3, to, tr, eqt, List.map, elems_cons, decide_true, eq_self, List.append_nil]; rw [mwp_reify_own (by simp (disch := first | omega | decide) only [go_sem, f0, f1, f2, f3, to, tr, eqt, List.map, elems_cons, decide_true, eq_self, List.append_nil]; rfl)]; (first | rw [sub_full (by simp [numR_length])] | skip); simp [-List.map_take, -List.map_drop, -BitVec.toNat_ofInt, go_sem, cellishAV, Value.oneCell', isAggAV, partsOf, TI.z, TI.mk1, mwp_if, sub]; exact hK _)
    iterate 1 (apply aops_step (by decide) rfl; · (intro K hK; simp (disch := first | omega | decide) only [go_sem, f0, f1, f2, f3, to, tr, eqt, decide_true, eq_self, List.append_nil]; exact hK _))
    apply aops_step (by decide) rfl
    · intro K hK
      simp (disch := first | omega | decide) only [go_sem, f0, f1, f2, f3, to, tr, eqt, List.map, decide_true, eq_self, List.append_nil]
      apply mwp_append2 el22 ti5 u22
      case hpk => intro Q hQ; first | exact hQ | (rw [peek_own (by simp (disch := first | omega | decide) only [go_sem, f0, f1, f2, f3, to, tr, eqt, decide_true, eq_self, List.append_nil]; rfl)]; (try rw [sub_full (by simp [numR_length])]); exact hQ)
      case hs' => rfl
      case ho => simp (disch := first | omega | decide) only [go_sem, f0, f1, f2, f3, to, tr, eqt, decide_true, eq_self, List.append_nil]; rfl
      case hsz => rfl
      case hhi => simp [numR_length]
      case hb => simp [sub, roomB, numR_length]; omega
      case hy => first | exact fun y hy => cells_map (fun _ => rfl) y hy | (simp [sub, cellsOf]; done) | (intro y hy; exact cells_map (k := 1) (fun _ => rfl) y hy)
      case k => (try simp only [List.nil_append, ← List.map_append, Bool.false_and]); exact hK _
    apply aops_step (by decide) rfl
    · intro K hK
      simp (disch := first | omega | decide) only [go_sem, f0, f1, f2, f3, to, tr, eqt, decide_true, eq_self, List.append_nil]
      rw [asg_tmp (by simp (disch := first | omega | decide) only [go_sem, f0, f1, f2, f3, to, tr, eqt, decide_true, eq_self, List.append_nil]; rfl)]
      exact hK _
    refine aops_nil ?_
    refine AW.seq ?_
    refine AW.seq ?_
    refine AW.region (cfg := cfg) ?_
    iterate 3 (apply aops_step (by decide) rfl; · (intro K hK; simp (disch := first | omega | decide) only [go_sem, f0, f1, f2, f3, to, tr, eqt, decide_true, eq_self, List.append_nil]; exact hK _))
    apply aops_merge' (by decide) (by first | exact want_of (d := 37) rfl (by simp (disch := first | omega | decide) only [go_sem, f0, f1, f2, f3, to, tr, eqt, opn_cond, decide_true, eq_self, List.append_nil]; rfl) | exact want_of_cond (d := 37) rfl (by simp (disch := first | omega | decide) only [go_sem, f0, f1, f2, f3, to, tr, eqt, opn_cond, decide_true, eq_self, List.append_nil]; rfl))
    · intro hc K hK
      have hc2 := hc
      simp only [beq_iff_eq, decide_eq_true_eq, decide_eq_false_iff_not, Bool.or_eq_true, Bool.and_eq_true, Bool.or_eq_false_iff, Bool.and_eq_false_iff] at hc2
      simp (disch := first | omega | decide) only [go_sem, f0, f1, f2, f3, to, tr, eqt, opn_cond, hc, if_true, decide_true, eq_self, List.append_nil]
      exact hK _
    apply aops_merge' (by decide) (by first | exact want_of (d := 37) rfl (by simp (disch := first | omega | decide) only [go_sem, f0, f1, f2, f3, to, tr, eqt, opn_cond, decide_true, eq_self, List.append_nil]; rfl) | exact want_of_cond (d := 37) rfl (by simp (disch := first | omega | decide) only [go_sem, f0, f1, f2, f3, to, tr, eqt, opn_cond, decide_true, eq_self, List.append_nil]; rfl))
    · intro hc K hK
      have hc2 := hc
      simp only [beq_iff_eq, decide_eq_true_eq, decide_eq_false_iff_not, Bool.or_eq_true, Bool.and_eq_true, Bool.or_eq_false_iff, Bool.and_eq_false_iff] at hc2
      simp (disch := first | omega | decide) only [go_sem, f0, f1, f2, f3, to, tr, eqt, opn_cond, hc, if_true, decide_true, eq_self, List.append_nil]
      exact hK _
    iterate 1 (apply aops_step (by decide) rfl; · (intro K hK; simp (disch := first | omega | decide) only [go_sem, f0, f1, f2, f3, to, tr, eqt, decide_true, eq_self, List.append_nil]; exact hK _))
    refine aops_nil ?_
    apply AW.cond
    · simp (disch := first | omega | decide) only [go_sem, f0, f1, f2, f3, to, tr, eqt, decide_true, eq_self, List.append_nil]; rfl
    case ht =>
      intro hb
      try simp only [Bool.or_eq_true, Bool.and_eq_true, Bool.or_eq_false_iff, Bool.and_eq_false_iff, decide_eq_true_eq, decide_eq_false_iff_not] at hb
      have hbt40 := hb
      have mw : mayW w = true := by simp [mayW]; omega
      obtain ⟨W, rfl⟩ := Int.eq_ofNat_of_zero_le (show 0 ≤ w by omega)
      have ns := numS_R n mw
      simp only [Int.toNat_natCast] at ns
      refine AW.region (cfg := cfg) ?_
      iterate 3 (apply aops_step (by decide) rfl; · (intro K hK; simp (disch := first | omega | decide) only [go_sem, f0, f1, f2, f3, to, tr, eqt, ns, decide_true, eq_self, List.append_nil]; exact hK _))
      apply aops_step (by decide) rfl
      · intro K hK
        simp (disch := first | omega | decide) only [go_sem, f0, f1, f2, f3, to, tr, eqt, ns, act_call, List.map, decide_true, eq_self, List.append_nil]
        apply mwp_call_r rfl rfl rfl
        · intro Q hQ
          simp (disch := first | omega | decide) only [go_sem, f0, f1, f2, f3, to, tr, eqt, ns, peekL, reifyL_nil, reifyL_cons, reify_v, decide_true, eq_self, List.append_nil]
          first | exact hQ | (((first | rw [peek_own (by simp (disch := first | omega | decide) only [go_sem, f0, f1, f2, f3, to, tr, eqt, ns, peekL, reifyL_nil, reifyL_cons, reify_v, decide_true, eq_self, List.append_nil]; rfl)] | rw [mwp_reify_own (by simp (disch := first | omega | decide) only [go_sem, f0, f1, f2, f3, to, tr, eqt, ns, peekL, reifyL_nil, reifyL_cons, reify_v, decide_true, eq_self, List.append_nil]; rfl)] | rw [peek_frz (by simp (disch := first | omega | decide) only [go_sem, f0, f1, f2, f3, to, tr, eqt, ns, peekL, reifyL_nil, reifyL_cons, reify_v, decide_true, eq_self, List.append_nil]; rfl)] | rw [reify_frz (by simp (disch := first | omega | decide) only [go_sem, f0, f1, f2, f3, to, tr, eqt, ns, peekL, reifyL_nil, reifyL_cons, reify_v, decide_true, eq_self, List.append_nil]; rfl)]); (try rw [sub_full (by simp [numR_length])])); exact hQ) | (((first | rw [peek_own (by simp (disch := first | omega | decide) only [go_sem, f0, f1, f2, f3, to, tr, eqt, ns, peekL, reifyL_nil, reifyL_cons, reify_v, decide_true, eq_self, List.append_nil]; rfl)] | rw [mwp_reify_own (by simp (disch := first | omega | decide) only [go_sem, f0, f1, f2, f3, to, tr, eqt, ns, peekL, reifyL_nil, reifyL_cons, reify_v, decide_true, eq_self, List.append_nil]; rfl)] | rw [peek_frz (by simp (disch := first | omega | decide) only [go_sem, f0, f1, f2, f3, to, tr, eqt, ns, peekL, reifyL_nil, reifyL_cons, reify_v, decide_true, eq_self, List.append_nil]; rfl)] | rw [reify_frz (by simp (disch := first | omega | decide) only [go_sem, f0, f1, f2, f3, to, tr, eqt, ns, peekL, reifyL_nil, reifyL_cons, reify_v, decide_true, eq_self, List.append_nil]; rfl)]); (try rw [sub_full (by simp [numR_length])])); (try simp (disch := first | omega | decide) only [go_sem, f0, f1, f2, f3, to, tr, eqt, ns, peekL, reifyL_nil, reifyL_cons, reify_v, decide_true, eq_self, List.append_nil]); ((first | rw [peek_own (by simp (disch := first | omega | decide) only [go_sem, f0, f1, f2, f3, to, tr, eqt, ns, peekL, reifyL_nil, reifyL_cons, reify_v, decide_true, eq_self, List.append_nil]; rfl)] | rw [mwp_reify_own (by simp (disch := first | omega | decide) only [go_sem, f0, f1, f2, f3, to, tr, eqt, ns, peekL, reifyL_nil, reifyL_cons, reify_v, decide_true, eq_self, List.append_nil]; rfl)] | rw [peek_frz (by simp (disch := first | omega | decide) only [go_sem, f0, f1, f2, f3, to, tr, eqt, ns, peekL, reifyL_nil, reifyL_cons, reify_v, decide_true, eq_self, List.append_nil]; rfl)] | rw [reify_frz (by simp (disch := first | omega | decide) only [go_sem, f0, f1, f2, f3, to, tr, eqt, ns, peekL, reifyL_nil, reifyL_cons, reify_v, decide_true, eq_self, List.append_nil]; rfl)]); (try rw [sub_full (by simp [numR_length])])); exact hQ) | (((first | rw [peek_own (by simp (disch := first | omega | decide) only [go_sem, f0, f1, f2, f3, to, tr, eqt, ns, peekL, reifyL_nil, reifyL_cons, reify_v, decide_true, eq_self, List.append_nil]; rfl)] | rw [mwp_reify_own (by simp (disch := first | omega | decide) only [go_sem, f0, f1, f2, f3, to, tr, eqt, ns, peekL, reifyL_nil, reifyL_cons, reify_v, decide_true, eq_self, List.append_nil]; rfl)] | rw [peek_frz (by simp (disch := first | omega | decide) only [go_sem, f0, f1, f2, f3, to, tr, eqt, ns, peekL, reifyL_nil, reifyL_cons, reify_v, decide_true, eq_self, List.append_nil]; rfl)] | rw [reify_frz (by simp (disch := first | omega | decide) only [go_sem, f0, f1, f2, f3, to, tr, eqt, ns, peekL, reifyL_nil, reifyL_cons, reify_v, decide_true, eq_self, List.append_nil]; rfl)]); (try rw [sub_full (by simp [numR_length])])); simp (disch := first | omega | decide) only [go_sem, f0, f1, f2, f3, to, tr, eqt, ns, peekL, reifyL_nil, reifyL_cons, reify_v, decide_true, eq_self, List.append_nil]; exact hQ)
        · exact good_refNum W _ (by omega) (by omega)
        · simp [-List.map_take, -List.map_drop, -List.map_append, noPtrL, noPtr, noPtrL_bsl, noPtrL_map, sub]
        · rw [resOf_own1 (by simp [Mem.set, hr])]
          exact hK _
      apply aops_step (by decide) rfl
      · intro K hK
        simp (disch := first | omega | decide) only [go_sem, f0, f1, f2, f3, to, tr, eqt, ns, List.map, decide_true, eq_self, List.append_nil]
        apply mwp_append2 el22 ti5 u22
        case hpk => intro Q hQ; first | exact hQ | (rw [peek_own (by simp (disch := first | omega | decide) only [go_sem, f0, f1, f2, f3, to, tr, eqt, ns, decide_true, eq_self, List.append_nil]; rfl)]; (try rw [sub_full (by simp [numR_length])]); exact hQ)
        case hs' => rfl
        case ho => simp (disch := first | omega | decide) only [go_sem, f0, f1, f2, f3, to, tr, eqt, ns, decide_true, eq_self, List.append_nil]; rfl
        case hsz => rfl
        case hhi => simp [numR_length]
        case hb => simp [sub, roomB, numR_length]; omega
        case hy => first | exact fun y hy => cells_map (fun _ => rfl) y hy | (simp [sub, cellsOf]; done) | (intro y hy; exact cells_map (k := 1) (fun _ => rfl) y hy)
        case k => (try simp only [List.nil_append, ← List.map_append, Bool.false_and]); exact hK _
      apply aops_step (by decide) rfl
      · intro K hK
        simp (disch := first | omega | decide) only [go_sem, f0, f1, f2, f3, to, tr, eqt, ns, decide_true, eq_self, List.append_nil]
        rw [asg_tmp (by simp (disch := first | omega | decide) only [go_sem, f0, f1, f2, f3, to, tr, eqt, ns, decide_true, eq_self, List.append_nil]; rfl)]
        exact hK _
      refine aops_nil ?_
      refine AW.seq ?_
      first | (have ns2 := numS_no (w := w) (n := n) (by simp [mayW]; omega)) | (have ns2 := eqt [])
      refine AW.region (cfg := cfg) ?_
      iterate 2 (apply aops_step (by decide) rfl; · (intro K hK; simp (disch := first | omega | decide) only [go_sem, f0, f1, f2, f3, to, tr, eqt, ns, ns2, decide_true, eq_self, List.append_nil]; exact hK _))
      apply aops_step (by decide) rfl
      · intro K hK
        simp (disch := first | omega | decide) only [go_sem, f0, f1, f2, f3, to, tr, eqt, ns, ns2, act_call, List.map, decide_true, eq_self, List.append_nil]
        apply mwp_call_s rfl rfl rfl
        · intro Q hQ
          simp (disch := first | omega | decide) only [go_sem, f0, f1, f2, f3, to, tr, eqt, ns, ns2, peekL, reifyL_nil, reifyL_cons, reify_v, decide_true, eq_self, List.append_nil]
          first | exact hQ | (((first | rw [peek_own (by simp (disch := first | omega | decide) only [go_sem, f0, f1, f2, f3, to, tr, eqt, ns, ns2, peekL, reifyL_nil, reifyL_cons, reify_v, decide_true, eq_self, List.append_nil]; rfl)] | rw [mwp_reify_own (by simp (disch := first | omega | decide) only [go_sem, f0, f1, f2, f3, to, tr, eqt, ns, ns2, peekL, reifyL_nil, reifyL_cons, reify_v, decide_true, eq_self, List.append_nil]; rfl)] | rw [peek_frz (by simp (disch := first | omega | decide) only [go_sem, f0, f1, f2, f3, to, tr, eqt, ns, ns2, peekL, reifyL_nil, reifyL_cons, reify_v, decide_true, eq_self, List.append_nil]; rfl)] | rw [reify_frz (by simp (disch := first | omega | decide) only [go_sem, f0, f1, f2, f3, to, tr, eqt, ns, ns2, peekL, reifyL_nil, reifyL_cons, reify_v, decide_true, eq_self, List.append_nil]; rfl)]); (try rw [sub_full (by simp [numR_length])])); exact hQ) | (((first | rw [peek_own (by simp (disch := first | omega | decide) only [go_sem, f0, f1, f2, f3, to, tr, eqt, ns, ns2, peekL, reifyL_nil, reifyL_cons, reify_v, decide_true, eq_self, List.append_nil]; rfl)] | rw [mwp_reify_own (by simp (disch := first | omega | decide) only [go_sem, f0, f1, f2, f3, to, tr, eqt, ns, ns2, peekL, reifyL_nil, reifyL_cons, reify_v, decide_true, eq_self, List.append_nil]; rfl)] | rw [peek_frz (by simp (disch := first | omega | decide) only [go_sem, f0, f1, f2, f3, to, tr, eqt, ns, ns2, peekL, reifyL_nil, reifyL_cons, reify_v, decide_true, eq_self, List.append_nil]; rfl)] | rw [reify_frz (by simp (disch := first | omega | decide) only [go_sem, f0, f1, f2, f3, to, tr, eqt, ns, ns2, peekL, reifyL_nil, reifyL_cons, reify_v, decide_true, eq_self, List.append_nil]; rfl)]); (try rw [sub_full (by simp [numR_length])])); (try simp (disch := first | omega | decide) only [go_sem, f0, f1, f2, f3, to, tr, eqt, ns, ns2, peekL, reifyL_nil, reifyL_cons, reify_v, decide_true, eq_self, List.append_nil]); ((first | rw [peek_own (by simp (disch := first | omega | decide) only [go_sem, f0, f1, f2, f3, to, tr, eqt, ns, ns2, peekL, reifyL_nil, reifyL_cons, reify_v, decide_true, eq_self, List.append_nil]; rfl)] | rw [mwp_reify_own (by simp (disch := first | omega | decide) only [go_sem, f0, f1, f2, f3, to, tr, eqt, ns, ns2, peekL, reifyL_nil, reifyL_cons, reify_v, decide_true, eq_self, List.append_nil]; rfl)] | rw [peek_frz (by simp (disch := first | omega | decide) only [go_sem, f0, f1, f2, f3, to, tr, eqt, ns, ns2, peekL, reifyL_nil, reifyL_cons, reify_v, decide_true, eq_self, List.append_nil]; rfl)] | rw [reify_frz (by simp (disch := first | omega | decide) only [go_sem, f0, f1, f2, f3, to, tr, eqt, ns, ns2, peekL, reifyL_nil, reifyL_cons, reify_v, decide_true, eq_self, List.append_nil]; rfl)]); (try rw [sub_full (by simp [numR_length])])); exact hQ) | (((first | rw [peek_own (by simp (disch := first | omega | decide) only [go_sem, f0, f1, f2, f3, to, tr, eqt, ns, ns2, peekL, reifyL_nil, reifyL_cons, reify_v, decide_true, eq_self, List.append_nil]; rfl)] | rw [mwp_reify_own (by simp (disch := first | omega | decide) only [go_sem, f0, f1, f2, f3, to, tr, eqt, ns, ns2, peekL, reifyL_nil, reifyL_cons, reify_v, decide_true, eq_self, List.append_nil]; rfl)] | rw [peek_frz (by simp (disch := first | omega | decide) only [go_sem, f0, f1, f2, f3, to, tr, eqt, ns, ns2, peekL, reifyL_nil, reifyL_cons, reify_v, decide_true, eq_self, List.append_nil]; rfl)] | rw [reify_frz (by simp (disch := first | omega | decide) only [go_sem, f0, f1, f2, f3, to, tr, eqt, ns, ns2, peekL, reifyL_nil, reifyL_cons, reify_v, decide_true, eq_self, List.append_nil]; rfl)]); (try rw [sub_full (by simp [numR_length])])); simp (disch := first | omega | decide) only [go_sem, f0, f1, f2, f3, to, tr, eqt, ns, ns2, peekL, reifyL_nil, reifyL_cons, reify_v, decide_true, eq_self, List.append_nil]; exact hQ)
        · exact good_Same _ _ _ _ (by first | omega | (simp [numR_length]; omega)) (by first | omega | (simp [numR_length]; omega))
        · simp [-List.map_take, -List.map_drop, -List.map_append, noPtrL, noPtr, noPtrL_bsl, noPtrL_map, sub]
        · rfl
        · exact hK _
      iterate 5 (apply aops_step (by decide) rfl; · (intro K hK; simp (disch := first | omega | decide) only [go_sem, f0, f1, f2, f3, to, tr, eqt, ns, ns2, decide_true, eq_self, List.append_nil]; exact hK _))
      apply aops_step (by decide) rfl
      · intro K hK
        rw [act_bs el22 ti5]
        first | (simp [-List.map_take, -List.map_drop, -BitVec.toNat_ofInt, -BitVec.ofInt_natCast, go_sem, elems_v, cellishAV, Value.oneCell', isAggAV, partsOf, TI.z, TI.mk1, f0, f1, f2, f3, to, tr, eqt, ns, ns2]; exact hK _) | (simp (disch := first | omega | decide) only [go_sem, f0, f1, f2, f3, to, tr, eqt, ns, ns2, List.map, elems_cons, decide_true, eq_self, List.append_nil]; rw [if_pos (by decide)]; simp (disch := first | omega | decide) only [go_sem, f0, f1, f2, f3, to, tr, eqt, ns, ns2, List.map, elems_cons, decide_true, eq_self, List.append_nil]; rw [mwp_reify_own (by simp (disch := first | omega | decide) only [go_sem, f0, f1, f2, f3, to, tr, eqt, ns, ns2, List.map, elems_cons, decide_true, eq_self, List.append_nil]; rfl)]; (first | rw [sub_full (by simp [numR_length])] | skip); simp [-List.map_take, -List.map_drop, -BitVec.toNat_ofInt, go_sem, cellishAV, Value.oneCell', isAggAV, partsOf, TI.z, TI.mk1, mwp_if, sub]; exact hK _)
      iterate 1 (apply aops_step (by decide) rfl; · (intro K hK; simp (disch := first | omega | decide) only [go_sem, f0, f1, f2, f3, to, tr, eqt, ns, ns2, decide_true, eq_self, List.append_nil]; exact hK _))
      apply aops_step (by decide) rfl
      · intro K hK
        simp (disch := first | omega | decide) only [go_sem, f0, f1, f2, f3, to, tr, eqt, ns, ns2, List.map, decide_true, eq_self, List.append_nil]
        apply mwp_append2 el22 ti5 u22
        case hpk => intro Q hQ; first | exact hQ | (rw [peek_own (by simp (disch := first | omega | decide) only [go_sem, f0, f1, f2, f3, to, tr, eqt, ns, ns2, decide_true, eq_self, List.append_nil]; rfl)]; (try rw [sub_full (by simp [numR_length])]); exact hQ)
        case hs' => rfl
        case ho => simp (disch := first | omega | decide) only [go_sem, f0, f1, f2, f3, to, tr, eqt, ns, ns2, decide_true, eq_self, List.append_nil]; rfl
        case hsz => rfl
        case hhi => simp [numR_length]
        case hb => simp [sub, roomB, numR_length]; omega
        case hy => first | exact fun y hy => cells_map (fun _ => rfl) y hy | (simp [sub, cellsOf]; done) | (intro y hy; exact cells_map (k := 1) (fun _ => rfl) y hy)
        case k => (try simp only [List.nil_append, ← List.map_append, Bool.false_and]); exact hK _
      iterate 1 (apply aops_step (by decide) rfl; · (intro K hK; simp (disch := first | omega | decide) only [go_sem, f0, f1, f2, f3, to, tr, eqt, ns, ns2, decide_true, eq_self, List.append_nil]; exact hK _))
      apply aops_step (by decide) rfl
      · intro K hK
        simp (disch := first | omega | decide) only [go_sem, f0, f1, f2, f3, to, tr, eqt, ns, ns2, act_call, List.map, decide_true, eq_self, List.append_nil]
        apply mwp_call_r rfl rfl rfl
        · intro Q hQ
          simp (disch := first | omega | decide) only [go_sem, f0, f1, f2, f3, to, tr, eqt, ns, ns2, peekL, reifyL_nil, reifyL_cons, reify_v, decide_true, eq_self, List.append_nil]
          first | exact hQ | (((first | rw [peek_own (by simp (disch := first | omega | decide) only [go_sem, f0, f1, f2, f3, to, tr, eqt, ns, ns2, peekL, reifyL_nil, reifyL_cons, reify_v, decide_true, eq_self, List.append_nil]; rfl)] | rw [mwp_reify_own (by simp (disch := first | omega | decide) only [go_sem, f0, f1, f2, f3, to, tr, eqt, ns, ns2, peekL, reifyL_nil, reifyL_cons, reify_v, decide_true, eq_self, List.append_nil]; rfl)] | rw [peek_frz (by simp (disch := first | omega | decide) only [go_sem, f0, f1, f2, f3, to, tr, eqt, ns, ns2, peekL, reifyL_nil, reifyL_cons, reify_v, decide_true, eq_self, List.append_nil]; rfl)] | rw [reify_frz (by simp (disch := first | omega | decide) only [go_sem, f0, f1, f2, f3, to, tr, eqt, ns, ns2, peekL, reifyL_nil, reifyL_cons, reify_v, decide_true, eq_self, List.append_nil]; rfl)]); (try rw [sub_full (by simp [numR_length])])); exact hQ) | (((first | rw [peek_own (by simp (disch := first | omega | decide) only [go_sem, f0, f1, f2, f3, to, tr, eqt, ns, ns2, peekL, reifyL_nil, reifyL_cons, reify_v, decide_true, eq_self, List.append_nil]; rfl)] | rw [mwp_reify_own (by simp (disch := first | omega | decide) only [go_sem, f0, f1, f2, f3, to, tr, eqt, ns, ns2, peekL, reifyL_nil, reifyL_cons, reify_v, decide_true, eq_self, List.append_nil]; rfl)] | rw [peek_frz (by simp (disch := first | omega | decide) only [go_sem, f0, f1, f2, f3, to, tr, eqt, ns, ns2, peekL, reifyL_nil, reifyL_cons, reify_v, decide_true, eq_self, List.append_nil]; rfl)] | rw [reify_frz (by simp (disch := first | omega | decide) only [go_sem, f0, f1, f2, f3, to, tr, eqt, ns, ns2, peekL, reifyL_nil, reifyL_cons, reify_v, decide_true, eq_self, List.append_nil]; rfl)]); (try rw [sub_full (by simp [numR_length])])); (try simp (disch := first | omega | decide) only [go_sem, f0, f1, f2, f3, to, tr, eqt, ns, ns2, peekL, reifyL_nil, reifyL_cons, reify_v, decide_true, eq_self, List.append_nil]); ((first | rw [peek_own (by simp (disch := first | omega | decide) only [go_sem, f0, f1, f2, f3, to, tr, eqt, ns, ns2, peekL, reifyL_nil, reifyL_cons, reify_v, decide_true, eq_self, List.append_nil]; rfl)] | rw [mwp_reify_own (by simp (disch := first | omega | decide) only [go_sem, f0, f1, f2, f3, to, tr, eqt, ns, ns2, peekL, reifyL_nil, reifyL_cons, reify_v, decide_true, eq_self, List.append_nil]; rfl)] | rw [peek_frz (by simp (disch := first | omega | decide) only [go_sem, f0, f1, f2, f3, to, tr, eqt, ns, ns2, peekL, reifyL_nil, reifyL_cons, reify_v, decide_true, eq_self, List.append_nil]; rfl)] | rw [reify_frz (by simp (disch := first | omega | decide) only [go_sem, f0, f1, f2, f3, to, tr, eqt, ns, ns2, peekL, reifyL_nil, reifyL_cons, reify_v, decide_true, eq_self, List.append_nil]; rfl)]); (try rw [sub_full (by simp [numR_length])])); exact hQ) | (((first | rw [peek_own (by simp (disch := first | omega | decide) only [go_sem, f0, f1, f2, f3, to, tr, eqt, ns, ns2, peekL, reifyL_nil, reifyL_cons, reify_v, decide_true, eq_self, List.append_nil]; rfl)] | rw [mwp_reify_own (by simp (disch := first | omega | decide) only [go_sem, f0, f1, f2, f3, to, tr, eqt, ns, ns2, peekL, reifyL_nil, reifyL_cons, reify_v, decide_true, eq_self, List.append_nil]; rfl)] | rw [peek_frz (by simp (disch := first | omega | decide) only [go_sem, f0, f1, f2, f3, to, tr, eqt, ns, ns2, peekL, reifyL_nil, reifyL_cons, reify_v, decide_true, eq_self, List.append_nil]; rfl)] | rw [reify_frz (by simp (disch := first | omega | decide) only [go_sem, f0, f1, f2, f3, to, tr, eqt, ns, ns2, peekL, reifyL_nil, reifyL_cons, reify_v, decide_true, eq_self, List.append_nil]; rfl)]); (try rw [sub_full (by simp [numR_length])])); simp (disch := first | omega | decide) only [go_sem, f0, f1, f2, f3, to, tr, eqt, ns, ns2, peekL, reifyL_nil, reifyL_cons, reify_v, decide_true, eq_self, List.append_nil]; exact hQ)
        · exact good_refText _ _ (by omega)
        · simp [-List.map_take, -List.map_drop, -List.map_append, noPtrL, noPtr, noPtrL_bsl, noPtrL_map, sub]
        · rw [resOf_own1 (by simp [Mem.set, hr])]
          exact hK _
      apply aops_step (by decide) rfl
      · intro K hK
        simp (disch := first | omega | decide) only [go_sem, f0, f1, f2, f3, to, tr, eqt, ns, ns2, List.map, decide_true, eq_self, List.append_nil]
        apply mwp_append2 el22 ti5 u22
        case hpk => intro Q hQ; first | exact hQ | (rw [peek_own (by simp (disch := first | omega | decide) only [go_sem, f0, f1, f2, f3, to, tr, eqt, ns, ns2, decide_true, eq_self, List.append_nil]; rfl)]; (try rw [sub_full (by simp [numR_length])]); exact hQ)
        case hs' => rfl
        case ho => simp (disch := first | omega | decide) only [go_sem, f0, f1, f2, f3, to, tr, eqt, ns, ns2, decide_true, eq_self, List.append_nil]; rfl
        case hsz => rfl
        case hhi => simp [numR_length]
        case hb => simp [sub, roomB, numR_length]; omega
        case hy => first | exact fun y hy => cells_map (fun _ => rfl) y hy | (simp [sub, cellsOf]; done) | (intro y hy; exact cells_map (k := 1) (fun _ => rfl) y hy)
        case k => (try simp only [List.nil_append, ← List.map_append, Bool.false_and]); exact hK _
      apply aops_step (by decide) rfl
      · intro K hK
        simp (disch := first | omega | decide) only [go_sem, f0, f1, f2, f3, to, tr, eqt, ns, ns2, act_call, List.map, decide_true, eq_self, List.append_nil]
        apply mwp_call_s rfl rfl rfl
        · intro Q hQ
          simp (disch := first | omega | decide) only [go_sem, f0, f1, f2, f3, to, tr, eqt, ns, ns2, peekL, reifyL_nil, reifyL_cons, reify_v, decide_true, eq_self, List.append_nil]
          first | exact hQ | (((first | rw [peek_own (by simp (disch := first | omega | decide) only [go_sem, f0, f1, f2, f3, to, tr, eqt, ns, ns2, peekL, reifyL_nil, reifyL_cons, reify_v, decide_true, eq_self, List.append_nil]; rfl)] | rw [mwp_reify_own (by simp (disch := first | omega | decide) only [go_sem, f0, f1, f2, f3, to, tr, eqt, ns, ns2, peekL, reifyL_nil, reifyL_cons, reify_v, decide_true, eq_self, List.append_nil]; rfl)] | rw [peek_frz (by simp (disch := first | omega | decide) only [go_sem, f0, f1, f2, f3, to, tr, eqt, ns, ns2, peekL, reifyL_nil, reifyL_cons, reify_v, decide_true, eq_self, List.append_nil]; rfl)] | rw [reify_frz (by simp (disch := first | omega | decide) only [go_sem, f0, f1, f2, f3, to, tr, eqt, ns, ns2, peekL, reifyL_nil, reifyL_cons, reify_v, decide_true, eq_self, List.append_nil]; rfl)]); (try rw [sub_full (by simp [numR_length])])); exact hQ) | (((first | rw [peek_own (by simp (disch := first | omega | decide) only [go_sem, f0, f1, f2, f3, to, tr, eqt, ns, ns2, peekL, reifyL_nil, reifyL_cons, reify_v, decide_true, eq_self, List.append_nil]; rfl)] | rw [mwp_reify_own (by simp (disch := first | omega | decide) only [go_sem, f0, f1, f2, f3, to, tr, eqt, ns, ns2, peekL, reifyL_nil, reifyL_cons, reify_v, decide_true, eq_self, List.append_nil]; rfl)] | rw [peek_frz (by simp (disch := first | omega | decide) only [go_sem, f0, f1, f2, f3, to, tr, eqt, ns, ns2, peekL, reifyL_nil, reifyL_cons, reify_v, decide_true, eq_self, List.append_nil]; rfl)] | rw [reify_frz (by simp (disch := first | omega | decide) only [go_sem, f0, f1, f2, f3, to, tr, eqt, ns, ns2, peekL, reifyL_nil, reifyL_cons, reify_v, decide_true, eq_self, List.append_nil]; rfl)]); (try rw [sub_full (by simp [numR_length])])); (try simp (disch := first | omega | decide) only [go_sem, f0, f1, f2, f3, to, tr, eqt, ns, ns2, peekL, reifyL_nil, reifyL_cons, reify_v, decide_true, eq_self, List.append_nil]); ((first | rw [peek_own (by simp (disch := first | omega | decide) only [go_sem, f0, f1, f2, f3, to, tr, eqt, ns, ns2, peekL, reifyL_nil, reifyL_cons, reify_v, decide_true, eq_self, List.append_nil]; rfl)] | rw [mwp_reify_own (by simp (disch := first | omega | decide) only [go_sem, f0, f1, f2, f3, to, tr, eqt, ns, ns2, peekL, reifyL_nil, reifyL_cons, reify_v, decide_true, eq_self, List.append_nil]; rfl)] | rw [peek_frz (by simp (disch := first | omega | decide) only [go_sem, f0, f1, f2, f3, to, tr, eqt, ns, ns2, peekL, reifyL_nil, reifyL_cons, reify_v, decide_true, eq_self, List.append_nil]; rfl)] | rw [reify_frz (by simp (disch := first | omega | decide) only [go_sem, f0, f1, f2, f3, to, tr, eqt, ns, ns2, peekL, reifyL_nil, reifyL_cons, reify_v, decide_true, eq_self, List.append_nil]; rfl)]); (try rw [sub_full (by simp [numR_length])])); exact hQ) | (((first | rw [peek_own (by simp (disch := first | omega | decide) only [go_sem, f0, f1, f2, f3, to, tr, eqt, ns, ns2, peekL, reifyL_nil, reifyL_cons, reify_v, decide_true, eq_self, List.append_nil]; rfl)] | rw [mwp_reify_own (by simp (disch := first | omega | decide) only [go_sem, f0, f1, f2, f3, to, tr, eqt, ns, ns2, peekL, reifyL_nil, reifyL_cons, reify_v, decide_true, eq_self, List.append_nil]; rfl)] | rw [peek_frz (by simp (disch := first | omega | decide) only [go_sem, f0, f1, f2, f3, to, tr, eqt, ns, ns2, peekL, reifyL_nil, reifyL_cons, reify_v, decide_true, eq_self, List.append_nil]; rfl)] | rw [reify_frz (by simp (disch := first | omega | decide) only [go_sem, f0, f1, f2, f3, to, tr, eqt, ns, ns2, peekL, reifyL_nil, reifyL_cons, reify_v, decide_true, eq_self, List.append_nil]; rfl)]); (try rw [sub_full (by simp [numR_length])])); simp (disch := first | omega | decide) only [go_sem, f0, f1, f2, f3, to, tr, eqt, ns, ns2, peekL, reifyL_nil, reifyL_cons, reify_v, decide_true, eq_self, List.append_nil]; exact hQ)
        · exact good_Same _ _ _ _ (by first | omega | (simp [numR_length]; omega)) (by first | omega | (simp [numR_length]; omega))
        · simp [-List.map_take, -List.map_drop, -List.map_append, noPtrL, noPtr, noPtrL_bsl, noPtrL_map, sub]
        · rfl
        · exact hK _
      iterate 2 (apply aops_step (by decide) rfl; · (intro K hK; simp (disch := first | omega | decide) only [go_sem, f0, f1, f2, f3, to, tr, eqt, ns, ns2, decide_true, eq_self, List.append_nil]; exact hK _))
      apply aops_step (by decide) rfl
      · intro K hK
        simp (disch := first | omega | decide) only [go_sem, f0, f1, f2, f3, to, tr, eqt, ns, ns2, act_call, List.map, decide_true, eq_self, List.append_nil]
        apply mwp_call_s rfl rfl rfl
        · intro Q hQ
          simp (disch := first | omega | decide) only [go_sem, f0, f1, f2, f3, to, tr, eqt, ns, ns2, peekL, reifyL_nil, reifyL_cons, reify_v, decide_true, eq_self, List.append_nil]
          first | exact hQ | (((first | rw [peek_own (by simp (disch := first | omega | decide) only [go_sem, f0, f1, f2, f3, to, tr, eqt, ns, ns2, peekL, reifyL_nil, reifyL_cons, reify_v, decide_true, eq_self, List.append_nil]; rfl)] | rw [mwp_reify_own (by simp (disch := first | omega | decide) only [go_sem, f0, f1, f2, f3, to, tr, eqt, ns, ns2, peekL, reifyL_nil, reifyL_cons, reify_v, decide_true, eq_self, List.append_nil]; rfl)] | rw [peek_frz (by simp (disch := first | omega | decide) only [go_sem, f0, f1, f2, f3, to, tr, eqt, ns, ns2, peekL, reifyL_nil, reifyL_cons, reify_v, decide_true, eq_self, List.append_nil]; rfl)] | rw [reify_frz (by simp (disch := first | omega | decide) only [go_sem, f0, f1, f2, f3, to, tr, eqt, ns, ns2, peekL, reifyL_nil, reifyL_cons, reify_v, decide_true, eq_self, List.append_nil]; rfl)]); (try rw [sub_full (by simp [numR_length])])); exact hQ) | (((first | rw [peek_own (by simp (disch := first | omega | decide) only [go_sem, f0, f1, f2, f3, to, tr, eqt, ns, ns2, peekL, reifyL_nil, reifyL_cons, reify_v, decide_true, eq_self, List.append_nil]; rfl)] | rw [mwp_reify_own (by simp (disch := first | omega | decide) only [go_sem, f0, f1, f2, f3, to, tr, eqt, ns, ns2, peekL, reifyL_nil, reifyL_cons, reify_v, decide_true, eq_self, List.append_nil]; rfl)] | rw [peek_frz (by simp (disch := first | omega | decide) only [go_sem, f0, f1, f2, f3, to, tr, eqt, ns, ns2, peekL, reifyL_nil, reifyL_cons, reify_v, decide_true, eq_self, List.append_nil]; rfl)] | rw [reify_frz (by simp (disch := first | omega | decide) only [go_sem, f0, f1, f2, f3, to, tr, eqt, ns, ns2, peekL, reifyL_nil, reifyL_cons, reify_v, decide_true, eq_self, List.append_nil]; rfl)]); (try rw [sub_full (by simp [numR_length])])); (try simp (disch := first | omega | decide) only [go_sem, f0, f1, f2, f3, to, tr, eqt, ns, ns2, peekL, reifyL_nil, reifyL_cons, reify_v, decide_true, eq_self, List.append_nil]); ((first | rw [peek_own (by simp (disch := first | omega | decide) only [go_sem, f0, f1, f2, f3, to, tr, eqt, ns, ns2, peekL, reifyL_nil, reifyL_cons, reify_v, decide_true, eq_self, List.append_nil]; rfl)] | rw [mwp_reify_own (by simp (disch := first | omega | decide) only [go_sem, f0, f1, f2, f3, to, tr, eqt, ns, ns2, peekL, reifyL_nil, reifyL_cons, reify_v, decide_true, eq_self, List.append_nil]; rfl)] | rw [peek_frz (by simp (disch := first | omega | decide) only [go_sem, f0, f1, f2, f3, to, tr, eqt, ns, ns2, peekL, reifyL_nil, reifyL_cons, reify_v, decide_true, eq_self, List.append_nil]; rfl)] | rw [reify_frz (by simp (disch := first | omega | decide) only [go_sem, f0, f1, f2, f3, to, tr, eqt, ns, ns2, peekL, reifyL_nil, reifyL_cons, reify_v, decide_true, eq_self, List.append_nil]; rfl)]); (try rw [sub_full (by simp [numR_length])])); exact hQ) | (((first | rw [peek_own (by simp (disch := first | omega | decide) only [go_sem, f0, f1, f2, f3, to, tr, eqt, ns, ns2, peekL, reifyL_nil, reifyL_cons, reify_v, decide_true, eq_self, List.append_nil]; rfl)] | rw [mwp_reify_own (by simp (disch := first | omega | decide) only [go_sem, f0, f1, f2, f3, to, tr, eqt, ns, ns2, peekL, reifyL_nil, reifyL_cons, reify_v, decide_true, eq_self, List.append_nil]; rfl)] | rw [peek_frz (by simp (disch := first | omega | decide) only [go_sem, f0, f1, f2, f3, to, tr, eqt, ns, ns2, peekL, reifyL_nil, reifyL_cons, reify_v, decide_true, eq_self, List.append_nil]; rfl)] | rw [reify_frz (by simp (disch := first | omega | decide) only [go_sem, f0, f1, f2, f3, to, tr, eqt, ns, ns2, peekL, reifyL_nil, reifyL_cons, reify_v, decide_true, eq_self, List.append_nil]; rfl)]); (try rw [sub_full (by simp [numR_length])])); simp (disch := first | omega | decide) only [go_sem, f0, f1, f2, f3, to, tr, eqt, ns, ns2, peekL, reifyL_nil, reifyL_cons, reify_v, decide_true, eq_self, List.append_nil]; exact hQ)
        · exact good_awake
        · simp [-List.map_take, -List.map_drop, -List.map_append, noPtrL, noPtr, noPtrL_bsl, noPtrL_map, sub]
        · rfl
        · exact hK _
      iterate 2 (apply aops_step (by decide) rfl; · (intro K hK; simp (disch := first | omega | decide) only [go_sem, f0, f1, f2, f3, to, tr, eqt, ns, ns2, decide_true, eq_self, List.append_nil]; exact hK _))
      refine aops_nil ?_
      refine AW.ret ?_
      refine ⟨.inr rfl, ?_⟩
      refine leaves_tmp1 8 rfl ?_ (by first | rfl | exact hG)
      simp (disch := first | omega | decide) only [go_sem, f0, f1, f2, f3, to, tr, eqt, ns, ns2, decide_true, eq_self, List.append_nil]
      all_goals trace_state
    case hf =>
      intro hb
      try simp only [Bool.or_eq_true, Bool.and_eq_true, Bool.or_eq_false_iff, Bool.and_eq_false_iff, decide_eq_true_eq, decide_eq_false_iff_not] at hb
      have hbt40 := hb
      refine AW.skip ?_
      refine AW.seq ?_
      first | (have ns2 := numS_no (w := w) (n := n) (by simp [mayW]; omega)) | (have ns2 := eqt [])
      refine AW.region (cfg := cfg) ?_
      iterate 2 (apply aops_step (by decide) rfl; · (intro K hK; simp (disch := first | omega | decide) only [go_sem, f0, f1, f2, f3, to, tr, eqt, ns2, decide_true, eq_self, List.append_nil]; exact hK _))
      apply aops_step (by decide) rfl
      · intro K hK
        simp (disch := first | omega | decide) only [go_sem, f0, f1, f2, f3, to, tr, eqt, ns2, act_call, List.map, decide_true, eq_self, List.append_nil]
        apply mwp_call_s rfl rfl rfl
        · intro Q hQ
          simp (disch := first | omega | decide) only [go_sem, f0, f1, f2, f3, to, tr, eqt, ns2, peekL, reifyL_nil, reifyL_cons, reify_v, decide_true, eq_self, List.append_nil]
          first | exact hQ | (((first | rw [peek_own (by simp (disch := first | omega | decide) only [go_sem, f0, f1, f2, f3, to, tr, eqt, ns2, peekL, reifyL_nil, reifyL_cons, reify_v, decide_true, eq_self, List.append_nil]; rfl)] | rw [mwp_reify_own (by simp (disch := first | omega | decide) only [go_sem, f0, f1, f2, f3, to, tr, eqt, ns2, peekL, reifyL_nil, reifyL_cons, reify_v, decide_true, eq_self, List.append_nil]; rfl)] | rw [peek_frz (by simp (disch := first | omega | decide) only [go_sem, f0, f1, f2, f3, to, tr, eqt, ns2, peekL, reifyL_nil, reifyL_cons, reify_v, decide_true, eq_self, List.append_nil]; rfl)] | rw [reify_frz (by simp (disch := first | omega | decide) only [go_sem, f0, f1, f2, f3, to, tr, eqt, ns2, peekL, reifyL_nil, reifyL_cons, reify_v, decide_true, eq_self, List.append_nil]; rfl)]); (try rw [sub_full (by simp [numR_length])])); exact hQ) | (((first | rw [peek_own (by simp (disch := first | omega | decide) only [go_sem, f0, f1, f2, f3, to, tr, eqt, ns2, peekL, reifyL_nil, reifyL_cons, reify_v, decide_true, eq_self, List.append_nil]; rfl)] | rw [mwp_reify_own (by simp (disch := first | omega | decide) only [go_sem, f0, f1, f2, f3, to, tr, eqt, ns2, peekL, reifyL_nil, reifyL_cons, reify_v, decide_true, eq_self, List.append_nil]; rfl)] | rw [peek_frz (by simp (disch := first | omega | decide) only [go_sem, f0, f1, f2, f3, to, tr, eqt, ns2, peekL, reifyL_nil, reifyL_cons, reify_v, decide_true, eq_self, List.append_nil]; rfl)] | rw [reify_frz (by simp (disch := first | omega | decide) only [go_sem, f0, f1, f2, f3, to, tr, eqt, ns2, peekL, reifyL_nil, reifyL_cons, reify_v, decide_true, eq_self, List.append_nil]; rfl)]); (try rw [sub_full (by simp [numR_length])])); (try simp (disch := first | omega | decide) only [go_sem, f0, f1, f2, f3, to, tr, eqt, ns2, peekL, reifyL_nil, reifyL_cons, reify_v, decide_true, eq_self, List.append_nil]); ((first | rw [peek_own (by simp (disch := first | omega | decide) only [go_sem, f0, f1, f2, f3, to, tr, eqt, ns2, peekL, reifyL_nil, reifyL_cons, reify_v, decide_true, eq_self, List.append_nil]; rfl)] | rw [mwp_reify_own (by simp (disch := first | omega | decide) only [go_sem, f0, f1, f2, f3, to, tr, eqt, ns2, peekL, reifyL_nil, reifyL_cons, reify_v, decide_true, eq_self, List.append_nil]; rfl)] | rw [peek_frz (by simp (disch := first | omega | decide) only [go_sem, f0, f1, f2, f3, to, tr, eqt, ns2, peekL, reifyL_nil, reifyL_cons, reify_v, decide_true, eq_self, List.append_nil]; rfl)] | rw [reify_frz (by simp (disch := first | omega | decide) only [go_sem, f0, f1, f2, f3, to, tr, eqt, ns2, peekL, reifyL_nil, reifyL_cons, reify_v, decide_true, eq_self, List.append_nil]; rfl)]); (try rw [sub_full (by simp [numR_length])])); exact hQ) | (((first | rw [peek_own (by simp (disch := first | omega | decide) only [go_sem, f0, f1, f2, f3, to, tr, eqt, ns2, peekL, reifyL_nil, reifyL_cons, reify_v, decide_true, eq_self, List.append_nil]; rfl)] | rw [mwp_reify_own (by simp (disch := first | omega | decide) only [go_sem, f0, f1, f2, f3, to, tr, eqt, ns2, peekL, reifyL_nil, reifyL_cons, reify_v, decide_true, eq_self, List.append_nil]; rfl)] | rw [peek_frz (by simp (disch := first | omega | decide) only [go_sem, f0, f1, f2, f3, to, tr, eqt, ns2, peekL, reifyL_nil, reifyL_cons, reify_v, decide_true, eq_self, List.append_nil]; rfl)] | rw [reify_frz (by simp (disch := first | omega | decide) only [go_sem, f0, f1, f2, f3, to, tr, eqt, ns2, peekL, reifyL_nil, reifyL_cons, reify_v, decide_true, eq_self, List.append_nil]; rfl)]); (try rw [sub_full (by simp [numR_length])])); simp (disch := first | omega | decide) only [go_sem, f0, f1, f2, f3, to, tr, eqt, ns2, peekL, reifyL_nil, reifyL_cons, reify_v, decide_true, eq_self, List.append_nil]; exact hQ)
        · exact good_Same _ _ _ _ (by first | omega | (simp [numR_length]; omega)) (by first | omega | (simp [numR_length]; omega))
        · simp [-List.map_take, -List.map_drop, -List.map_append, noPtrL, noPtr, noPtrL_bsl, noPtrL_map, sub]
        · rfl
        · exact hK _
      iterate 5 (apply aops_step (by decide) rfl; · (intro K hK; simp (disch := first | omega | decide) only [go_sem, f0, f1, f2, f3, to, tr, eqt, ns2, decide_true, eq_self, List.append_nil]; exact hK _))
      apply aops_step (by decide) rfl
      · intro K hK
        rw [act_bs el22 ti5]
        first | (simp [-List.map_take, -List.map_drop, -BitVec.toNat_ofInt, -BitVec.ofInt_natCast, go_sem, elems_v, cellishAV, Value.oneCell', isAggAV, partsOf, TI.z, TI.mk1, f0, f1, f2, f3, to, tr, eqt, ns2]; exact hK _) | (simp (disch := first | omega | decide) only [go_sem, f0, f1, f2, f3, to, tr, eqt, ns2, List.map, elems_cons, decide_true, eq_self, List.append_nil]; rw [if_pos (by decide)]; simp (disch := first | omega | decide) only [go_sem, f0, f1, f2, f3, to, tr, eqt, ns2, List.map, elems_cons, decide_true, eq_self, List.append_nil]; rw [mwp_reify_own (by simp (disch := first | omega | decide) only [go_sem, f0, f1, f2, f3, to, tr, eqt, ns2, List.map, elems_cons, decide_true, eq_self, List.append_nil]; rfl)]; (first | rw [sub_full (by simp [numR_length])] | skip); simp [-List.map_take, -List.map_drop, -BitVec.toNat_ofInt, go_sem, cellishAV, Value.oneCell', isAggAV, partsOf, TI.z, TI.mk1, mwp_if, sub]; exact hK _)
      iterate 1 (apply aops_step (by decide) rfl; · (intro K hK; simp (disch := first | omega | decide) only [go_sem, f0, f1, f2, f3, to, tr, eqt, ns2, decide_true, eq_self, List.append_nil]; exact hK _))
      apply aops_step (by decide) rfl
      · intro K hK
        simp (disch := first | omega | decide) only [go_sem, f0, f1, f2, f3, to, tr, eqt, ns2, List.map, decide_true, eq_self, List.append_nil]
        apply mwp_append2 el22 ti5 u22
        case hpk => intro Q hQ; first | exact hQ | (rw [peek_own (by simp (disch := first | omega | decide) only [go_sem, f0, f1, f2, f3, to, tr, eqt, ns2, decide_true, eq_self, List.append_nil]; rfl)]; (try rw [sub_full (by simp [numR_length])]); exact hQ)
        case hs' => rfl
        case ho => simp (disch := first | omega | decide) only [go_sem, f0, f1, f2, f3, to, tr, eqt, ns2, decide_true, eq_self, List.append_nil]; rfl
        case hsz => rfl
        case hhi => simp [numR_length]
        case hb => simp [sub, roomB, numR_length]; omega
        case hy => first | exact fun y hy => cells_map (fun _ => rfl) y hy | (simp [sub, cellsOf]; done) | (intro y hy; exact cells_map (k := 1) (fun _ => rfl) y hy)
        case k => (try simp only [List.nil_append, ← List.map_append, Bool.false_and]); exact hK _
      iterate 1 (apply aops_step (by decide) rfl; · (intro K hK; simp (disch := first | omega | decide) only [go_sem, f0, f1, f2, f3, to, tr, eqt, ns2, decide_true, eq_self, List.append_nil]; exact hK _))
      apply aops_step (by decide) rfl
      · intro K hK
        simp (disch := first | omega | decide) only [go_sem, f0, f1, f2, f3, to, tr, eqt, ns2, act_call, List.map, decide_true, eq_self, List.append_nil]
        apply mwp_call_r rfl rfl rfl
        · intro Q hQ
          simp (disch := first | omega | decide) only [go_sem, f0, f1, f2, f3, to, tr, eqt, ns2, peekL, reifyL_nil, reifyL_cons, reify_v, decide_true, eq_self, List.append_nil]
          first | exact hQ | (((first | rw [peek_own (by simp (disch := first | omega | decide) only [go_sem, f0, f1, f2, f3, to, tr, eqt, ns2, peekL, reifyL_nil, reifyL_cons, reify_v, decide_true, eq_self, List.append_nil]; rfl)] | rw [mwp_reify_own (by simp (disch := first | omega | decide) only [go_sem, f0, f1, f2, f3, to, tr, eqt, ns2, peekL, reifyL_nil, reifyL_cons, reify_v, decide_true, eq_self, List.append_nil]; rfl)] | rw [peek_frz (by simp (disch := first | omega | decide) only [go_sem, f0, f1, f2, f3, to, tr, eqt, ns2, peekL, reifyL_nil, reifyL_cons, reify_v, decide_true, eq_self, List.append_nil]; rfl)] | rw [reify_frz (by simp (disch := first | omega | decide) only [go_sem, f0, f1, f2, f3, to, tr, eqt, ns2, peekL, reifyL_nil, reifyL_cons, reify_v, decide_true, eq_self, List.append_nil]; rfl)]); (try rw [sub_full (by simp [numR_length])])); exact hQ) | (((first | rw [peek_own (by simp (disch := first | omega | decide) only [go_sem, f0, f1, f2, f3, to, tr, eqt, ns2, peekL, reifyL_nil, reifyL_cons, reify_v, decide_true, eq_self, List.append_nil]; rfl)] | rw [mwp_reify_own (by simp (disch := first | omega | decide) only [go_sem, f0, f1, f2, f3, to, tr, eqt, ns2, peekL, reifyL_nil, reifyL_cons, reify_v, decide_true, eq_self, List.append_nil]; rfl)] | rw [peek_frz (by simp (disch := first | omega | decide) only [go_sem, f0, f1, f2, f3, to, tr, eqt, ns2, peekL, reifyL_nil, reifyL_cons, reify_v, decide_true, eq_self, List.append_nil]; rfl)] | rw [reify_frz (by simp (disch := first | omega | decide) only [go_sem, f0, f1, f2, f3, to, tr, eqt, ns2, peekL, reifyL_nil, reifyL_cons, reify_v, decide_true, eq_self, List.append_nil]; rfl)]); (try rw [sub_full (by simp [numR_length])])); (try simp (disch := first | omega | decide) only [go_sem, f0, f1, f2, f3, to, tr, eqt, ns2, peekL, reifyL_nil, reifyL_cons, reify_v, decide_true, eq_self, List.append_nil]); ((first | rw [peek_own (by simp (disch := first | omega | decide) only [go_sem, f0, f1, f2, f3, to, tr, eqt, ns2, peekL, reifyL_nil, reifyL_cons, reify_v, decide_true, eq_self, List.append_nil]; rfl)] | rw [mwp_reify_own (by simp (disch := first | omega | decide) only [go_sem, f0, f1, f2, f3, to, tr, eqt, ns2, peekL, reifyL_nil, reifyL_cons, reify_v, decide_true, eq_self, List.append_nil]; rfl)] | rw [peek_frz (by simp (disch := first | omega | decide) only [go_sem, f0, f1, f2, f3, to, tr, eqt, ns2, peekL, reifyL_nil, reifyL_cons, reify_v, decide_true, eq_self, List.append_nil]; rfl)] | rw [reify_frz (by simp (disch := first | omega | decide) only [go_sem, f0, f1, f2, f3, to, tr, eqt, ns2, peekL, reifyL_nil, reifyL_cons, reify_v, decide_true, eq_self, List.append_nil]; rfl)]); (try rw [sub_full (by simp [numR_length])])); exact hQ) | (((first | rw [peek_own (by simp (disch := first | omega | decide) only [go_sem, f0, f1, f2, f3, to, tr, eqt, ns2, peekL, reifyL_nil, reifyL_cons, reify_v, decide_true, eq_self, List.append_nil]; rfl)] | rw [mwp_reify_own (by simp (disch := first | omega | decide) only [go_sem, f0, f1, f2, f3, to, tr, eqt, ns2, peekL, reifyL_nil, reifyL_cons, reify_v, decide_true, eq_self, List.append_nil]; rfl)] | rw [peek_frz (by simp (disch := first | omega | decide) only [go_sem, f0, f1, f2, f3, to, tr, eqt, ns2, peekL, reifyL_nil, reifyL_cons, reify_v, decide_true, eq_self, List.append_nil]; rfl)] | rw [reify_frz (by simp (disch := first | omega | decide) only [go_sem, f0, f1, f2, f3, to, tr, eqt, ns2, peekL, reifyL_nil, reifyL_cons, reify_v, decide_true, eq_self, List.append_nil]; rfl)]); (try rw [sub_full (by simp [numR_length])])); simp (disch := first | omega | decide) only [go_sem, f0, f1, f2, f3, to, tr, eqt, ns2, peekL, reifyL_nil, reifyL_cons, reify_v, decide_true, eq_self, List.append_nil]; exact hQ)
        · exact good_refText _ _ (by omega)
        · simp [-List.map_take, -List.map_drop, -List.map_append, noPtrL, noPtr, noPtrL_bsl, noPtrL_map, sub]
        · rw [resOf_own1 (by simp [Mem.set, hr])]
          exact hK _
      apply aops_step (by decide) rfl
      · intro K hK
        simp (disch := first | omega | decide) only [go_sem, f0, f1, f2, f3, to, tr, eqt, ns2, List.map, decide_true, eq_self, List.append_nil]
        apply mwp_append2 el22 ti5 u22
        case hpk => intro Q hQ; first | exact hQ | (rw [peek_own (by simp (disch := first | omega | decide) only [go_sem, f0, f1, f2, f3, to, tr, eqt, ns2, decide_true, eq_self, List.append_nil]; rfl)]; (try rw [sub_full (by simp [numR_length])]); exact hQ)
        case hs' => rfl
        case ho => simp (disch := first | omega | decide) only [go_sem, f0, f1, f2, f3, to, tr, eqt, ns2, decide_true, eq_self, List.append_nil]; rfl
        case hsz => rfl
        case hhi => simp [numR_length]
        case hb => simp [sub, roomB, numR_length]; omega
        case hy => first | exact fun y hy => cells_map (fun _ => rfl) y hy | (simp [sub, cellsOf]; done) | (intro y hy; exact cells_map (k := 1) (fun _ => rfl) y hy)
        case k => (try simp only [List.nil_append, ← List.map_append, Bool.false_and]); exact hK _
      apply aops_step (by decide) rfl
      · intro K hK
        simp (disch := first | omega | decide) only [go_sem, f0, f1, f2, f3, to, tr, eqt, ns2, act_call, List.map, decide_true, eq_self, List.append_nil]
        apply mwp_call_s rfl rfl rfl
        · intro Q hQ
          simp (disch := first | omega | decide) only [go_sem, f0, f1, f2, f3, to, tr, eqt, ns2, peekL, reifyL_nil, reifyL_cons, reify_v, decide_true, eq_self, List.append_nil]
          first | exact hQ | (((first | rw [peek_own (by simp (disch := first | omega | decide) only [go_sem, f0, f1, f2, f3, to, tr, eqt, ns2, peekL, reifyL_nil, reifyL_cons, reify_v, decide_true, eq_self, List.append_nil]; rfl)] | rw [mwp_reify_own (by simp (disch := first | omega | decide) only [go_sem, f0, f1, f2, f3, to, tr, eqt, ns2, peekL, reifyL_nil, reifyL_cons, reify_v, decide_true, eq_self, List.append_nil]; rfl)] | rw [peek_frz (by simp (disch := first | omega | decide) only [go_sem, f0, f1, f2, f3, to, tr, eqt, ns2, peekL, reifyL_nil, reifyL_cons, reify_v, decide_true, eq_self, List.append_nil]; rfl)] | rw [reify_frz (by simp (disch := first | omega | decide) only [go_sem, f0, f1, f2, f3, to, tr, eqt, ns2, peekL, reifyL_nil, reifyL_cons, reify_v, decide_true, eq_self, List.append_nil]; rfl)]); (try rw [sub_full (by simp [numR_length])])); exact hQ) | (((first | rw [peek_own (by simp (disch := first | omega | decide) only [go_sem, f0, f1, f2, f3, to, tr, eqt, ns2, peekL, reifyL_nil, reifyL_cons, reify_v, decide_true, eq_self, List.append_nil]; rfl)] | rw [mwp_reify_own (by simp (disch := first | omega | decide) only [go_sem, f0, f1, f2, f3, to, tr, eqt, ns2, peekL, reifyL_nil, reifyL_cons, reify_v, decide_true, eq_self, List.append_nil]; rfl)] | rw [peek_frz (by simp (disch := first | omega | decide) only [go_sem, f0, f1, f2, f3, to, tr, eqt, ns2, peekL, reifyL_nil, reifyL_cons, reify_v, decide_true, eq_self, List.append_nil]; rfl)] | rw [reify_frz (by simp (disch := first | omega | decide) only [go_sem, f0, f1, f2, f3, to, tr, eqt, ns2, peekL, reifyL_nil, reifyL_cons, reify_v, decide_true, eq_self, List.append_nil]; rfl)]); (try rw [sub_full (by simp [numR_length])])); (try simp (disch := first | omega | decide) only [go_sem, f0, f1, f2, f3, to, tr, eqt, ns2, peekL, reifyL_nil, reifyL_cons, reify_v, decide_true, eq_self, List.append_nil]); ((first | rw [peek_own (by simp (disch := first | omega | decide) only [go_sem, f0, f1, f2, f3, to, tr, eqt, ns2, peekL, reifyL_nil, reifyL_cons, reify_v, decide_true, eq_self, List.append_nil]; rfl)] | rw [mwp_reify_own (by simp (disch := first | omega | decide) only [go_sem, f0, f1, f2, f3, to, tr, eqt, ns2, peekL, reifyL_nil, reifyL_cons, reify_v, decide_true, eq_self, List.append_nil]; rfl)] | rw [peek_frz (by simp (disch := first | omega | decide) only [go_sem, f0, f1, f2, f3, to, tr, eqt, ns2, peekL, reifyL_nil, reifyL_cons, reify_v, decide_true, eq_self, List.append_nil]; rfl)] | rw [reify_frz (by simp (disch := first | omega | decide) only [go_sem, f0, f1, f2, f3, to, tr, eqt, ns2, peekL, reifyL_nil, reifyL_cons, reify_v, decide_true, eq_self, List.append_nil]; rfl)]); (try rw [sub_full (by simp [numR_length])])); exact hQ) | (((first | rw [peek_own (by simp (disch := first | omega | decide) only [go_sem, f0, f1, f2, f3, to, tr, eqt, ns2, peekL, reifyL_nil, reifyL_cons, reify_v, decide_true, eq_self, List.append_nil]; rfl)] | rw [mwp_reify_own (by simp (disch := first | omega | decide) only [go_sem, f0, f1, f2, f3, to, tr, eqt, ns2, peekL, reifyL_nil, reifyL_cons, reify_v, decide_true, eq_self, List.append_nil]; rfl)] | rw [peek_frz (by simp (disch := first | omega | decide) only [go_sem, f0, f1, f2, f3, to, tr, eqt, ns2, peekL, reifyL_nil, reifyL_cons, reify_v, decide_true, eq_self, List.append_nil]; rfl)] | rw [reify_frz (by simp (disch := first | omega | decide) only [go_sem, f0, f1, f2, f3, to, tr, eqt, ns2, peekL, reifyL_nil, reifyL_cons, reify_v, decide_true, eq_self, List.append_nil]; rfl)]); (try rw [sub_full (by simp [numR_length])])); simp (disch := first | omega | decide) only [go_sem, f0, f1, f2, f3, to, tr, eqt, ns2, peekL, reifyL_nil, reifyL_cons, reify_v, decide_true, eq_self, List.append_nil]; exact hQ)
        · exact good_Same _ _ _ _ (by first | omega | (simp [numR_length]; omega)) (by first | omega | (simp [numR_length]; omega))
        · simp [-List.map_take, -List.map_drop, -List.map_append, noPtrL, noPtr, noPtrL_bsl, noPtrL_map, sub]
        · rfl
        · exact hK _
      iterate 2 (apply aops_step (by decide) rfl; · (intro K hK; simp (disch := first | omega | decide) only [go_sem, f0, f1, f2, f3, to, tr, eqt, ns2, decide_true, eq_self, List.append_nil]; exact hK _))
      apply aops_step (by decide) rfl
      · intro K hK
        simp (disch := first | omega | decide) only [go_sem, f0, f1, f2, f3, to, tr, eqt, ns2, act_call, List.map, decide_true, eq_self, List.append_nil]
        apply mwp_call_s rfl rfl rfl
        · intro Q hQ
          simp (disch := first | omega | decide) only [go_sem, f0, f1, f2, f3, to, tr, eqt, ns2, peekL, reifyL_nil, reifyL_cons, reify_v, decide_true, eq_self, List.append_nil]
          first | exact hQ | (((first | rw [peek_own (by simp (disch := first | omega | decide) only [go_sem, f0, f1, f2, f3, to, tr, eqt, ns2, peekL, reifyL_nil, reifyL_cons, reify_v, decide_true, eq_self, List.append_nil]; rfl)] | rw [mwp_reify_own (by simp (disch := first | omega | decide) only [go_sem, f0, f1, f2, f3, to, tr, eqt, ns2, peekL, reifyL_nil, reifyL_cons, reify_v, decide_true, eq_self, List.append_nil]; rfl)] | rw [peek_frz (by simp (disch := first | omega | decide) only [go_sem, f0, f1, f2, f3, to, tr, eqt, ns2, peekL, reifyL_nil, reifyL_cons, reify_v, decide_true, eq_self, List.append_nil]; rfl)] | rw [reify_frz (by simp (disch := first | omega | decide) only [go_sem, f0, f1, f2, f3, to, tr, eqt, ns2, peekL, reifyL_nil, reifyL_cons, reify_v, decide_true, eq_self, List.append_nil]; rfl)]); (try rw [sub_full (by simp [numR_length])])); exact hQ) | (((first | rw [peek_own (by simp (disch := first | omega | decide) only [go_sem, f0, f1, f2, f3, to, tr, eqt, ns2, peekL, reifyL_nil, reifyL_cons, reify_v, decide_true, eq_self, List.append_nil]; rfl)] | rw [mwp_reify_own (by simp (disch := first | omega | decide) only [go_sem, f0, f1, f2, f3, to, tr, eqt, ns2, peekL, reifyL_nil, reifyL_cons, reify_v, decide_true, eq_self, List.append_nil]; rfl)] | rw [peek_frz (by simp (disch := first | omega | decide) only [go_sem, f0, f1, f2, f3, to, tr, eqt, ns2, peekL, reifyL_nil, reifyL_cons, reify_v, decide_true, eq_self, List.append_nil]; rfl)] | rw [reify_frz (by simp (disch := first | omega | decide) only [go_sem, f0, f1, f2, f3, to, tr, eqt, ns2, peekL, reifyL_nil, reifyL_cons, reify_v, decide_true, eq_self, List.append_nil]; rfl)]); (try rw [sub_full (by simp [numR_length])])); (try simp (disch := first | omega | decide) only [go_sem, f0, f1, f2, f3, to, tr, eqt, ns2, peekL, reifyL_nil, reifyL_cons, reify_v, decide_true, eq_self, List.append_nil]); ((first | rw [peek_own (by simp (disch := first | omega | decide) only [go_sem, f0, f1, f2, f3, to, tr, eqt, ns2, peekL, reifyL_nil, reifyL_cons, reify_v, decide_true, eq_self, List.append_nil]; rfl)] | rw [mwp_reify_own (by simp (disch := first | omega | decide) only [go_sem, f0, f1, f2, f3, to, tr, eqt, ns2, peekL, reifyL_nil, reifyL_cons, reify_v, decide_true, eq_self, List.append_nil]; rfl)] | rw [peek_frz (by simp (disch := first | omega | decide) only [go_sem, f0, f1, f2, f3, to, tr, eqt, ns2, peekL, reifyL_nil, reifyL_cons, reify_v, decide_true, eq_self, List.append_nil]; rfl)] | rw [reify_frz (by simp (disch := first | omega | decide) only [go_sem, f0, f1, f2, f3, to, tr, eqt, ns2, peekL, reifyL_nil, reifyL_cons, reify_v, decide_true, eq_self, List.append_nil]; rfl)]); (try rw [sub_full (by simp [numR_length])])); exact hQ) | (((first | rw [peek_own (by simp (disch := first | omega | decide) only [go_sem, f0, f1, f2, f3, to, tr, eqt, ns2, peekL, reifyL_nil, reifyL_cons, reify_v, decide_true, eq_self, List.append_nil]; rfl)] | rw [mwp_reify_own (by simp (disch := first | omega | decide) only [go_sem, f0, f1, f2, f3, to, tr, eqt, ns2, peekL, reifyL_nil, reifyL_cons, reify_v, decide_true, eq_self, List.append_nil]; rfl)] | rw [peek_frz (by simp (disch := first | omega | decide) only [go_sem, f0, f1, f2, f3, to, tr, eqt, ns2, peekL, reifyL_nil, reifyL_cons, reify_v, decide_true, eq_self, List.append_nil]; rfl)] | rw [reify_frz (by simp (disch := first | omega | decide) only [go_sem, f0, f1, f2, f3, to, tr, eqt, ns2, peekL, reifyL_nil, reifyL_cons, reify_v, decide_true, eq_self, List.append_nil]; rfl)]); (try rw [sub_full (by simp [numR_length])])); simp (disch := first | omega | decide) only [go_sem, f0, f1, f2, f3, to, tr, eqt, ns2, peekL, reifyL_nil, reifyL_cons, reify_v, decide_true, eq_self, List.append_nil]; exact hQ)
        · exact good_awake
        · simp [-List.map_take, -List.map_drop, -List.map_append, noPtrL, noPtr, noPtrL_bsl, noPtrL_map, sub]
        · rfl
        · exact hK _
      iterate 2 (apply aops_step (by decide) rfl; · (intro K hK; simp (disch := first | omega | decide) only [go_sem, f0, f1, f2, f3, to, tr, eqt, ns2, decide_true, eq_self, List.append_nil]; exact hK _))
      refine aops_nil ?_
      refine AW.ret ?_
      refine ⟨.inr rfl, ?_⟩
      refine leaves_tmp1 8 rfl ?_ (by first | rfl | exact hG)
      simp (disch := first | omega | decide) only [go_sem, f0, f1, f2, f3, to, tr, eqt, ns2, decide_true, eq_self, List.append_nil]
      all_goals trace_state

set_option maxHeartbeats 4000000 in
set_option maxRecDepth 100000 in
theorem good_OctetPuts (nil : Bool) (l : List (BitVec 8)) (w n : Int) (nt : Bool) (t : List (BitVec 8)) (hl : l.length ≤ 9223372036854775807) (hz : nil = true → l = []) (hn : 0 ≤ n ∧ n < 18446744073709551616) (ht : t.length ≤ 9223372036854775807) (hzt : nt = true → t = []) : Good Try.prog 11 [(.agg [.sl 1 nil (bsl l), i64 w, .i .u64 n, .sl 1 nt (bsl t)], false)] [] [(.b true, false)] [] := by
  refine good_of_body2 12 Try.func11 rfl rfl rfl (by simp) ?_
  intro s m ha hr hv hG
  have f0 : s 0 = .v (.agg [.sl 1 nil (bsl l), i64 w, .i .u64 n, .sl 1 nt (bsl t)]) := ha 0 _ rfl
  clear ha
  refine AW.seq ?_
  refine AW.region (cfg := cfg) ?_
  apply aops_step (by decide) rfl
  · intro K hK
    simp (disch := first | omega | decide) only [go_sem, f0, act_box_t ti70, List.map]
    rw [settleL_vish _ _ (by rfl)]
    simp (disch := first | omega | decide) only [go_sem, f0, cellsL, List.map, List.length_cons, List.length_nil, Nat.reduceAdd, if_true]
    exact hK _
  iterate 1 (apply aops_step (by decide) rfl; · (intro K hK; simp (disch := first | omega | decide) only [go_sem, f0]; exact hK _))
  refine aops_nil ?_
  refine AW.seq ?_
  refine AW.region (cfg := cfg) ?_
  apply aops_step (by decide) rfl
  · intro K hK
    simp (disch := first | omega | decide) only [go_sem, f0, act_fieldAddr_t fo70_0, List.map]
    first | rw [mwp_fieldAddr_b (by simp (disch := first | omega | decide) only [go_sem, f0]; rfl)] | skip
    exact hK _
  apply aops_step (by decide) rfl
  · intro K hK
    simp (disch := first | omega | decide) only [go_sem, f0, act_load_t ti22, List.map]
    first | rw [mwp_load_i1 (by rfl)] | rw [mwp_load_g1 (by first | (rw [hG]; rfl) | rfl | (simp only [mset_G, hG]; rfl)) (by rfl)] | rw [mwp_load_gs (by first | (rw [hG]; rfl) | rfl | (simp only [mset_G, hG]; rfl)) (by simp)] | rw [mwp_load_bs (by simp (disch := first | omega | decide) only [go_sem, f0]; rfl) (by simp [setAt])] | rw [mwp_load_b1 (by simp (disch := first | omega | decide) only [go_sem, f0]; rfl) (by rfl)] | rw [mwp_aLoad_map (by simp (disch := first | omega | decide) only [go_sem, f0]; rfl) (by first | omega | decide | (simp; omega)) (fun _ => rfl)] | rw [mwp_aLoad_frz (by simp (disch := first | omega | decide) only [go_sem, f0]; rfl) (by first | omega | decide | (simp; omega)) (fun _ => rfl)] | rw [mwp_aLoad_e1 (by simp (disch := first | omega | decide) only [go_sem, f0]; rfl) (by first | rfl | simp) rfl] | rw [mwp_aLoad_f1 (by simp (disch := first | omega | decide) only [go_sem, f0]; rfl) (by rfl) rfl] | skip
    exact hK _
  apply aops_step (by decide) rfl
  · intro K hK
    simp (disch := first | omega | decide) only [go_sem, f0, act_fieldAddr_t fo70_1, List.map]
    first | rw [mwp_fieldAddr_b (by simp (disch := first | omega | decide) only [go_sem, f0]; rfl)] | skip
    exact hK _
  apply aops_step (by decide) rfl
  · intro K hK
    simp (disch := first | omega | decide) only [go_sem, f0, act_load_t ti3, List.map]
    first | rw [mwp_load_i1 (by rfl)] | rw [mwp_load_g1 (by first | (rw [hG]; rfl) | rfl | (simp only [mset_G, hG]; rfl)) (by rfl)] | rw [mwp_load_gs (by first | (rw [hG]; rfl) | rfl | (simp only [mset_G, hG]; rfl)) (by simp)] | rw [mwp_load_bs (by simp (disch := first | omega | decide) only [go_sem, f0]; rfl) (by simp [setAt])] | rw [mwp_load_b1 (by simp (disch := first | omega | decide) only [go_sem, f0]; rfl) (by rfl)] | rw [mwp_aLoad_map (by simp (disch := first | omega | decide) only [go_sem, f0]; rfl) (by first | omega | decide | (simp; omega)) (fun _ => rfl)] | rw [mwp_aLoad_frz (by simp (disch := first | omega | decide) only [go_sem, f0]; rfl) (by first | omega | decide | (simp; omega)) (fun _ => rfl)] | rw [mwp_aLoad_e1 (by simp (disch := first | omega | decide) only [go_sem, f0]; rfl) (by first | rfl | simp) rfl] | rw [mwp_aLoad_f1 (by simp (disch := first | omega | decide) only [go_sem, f0]; rfl) (by rfl) rfl] | skip
    exact hK _
  apply aops_step (by decide) rfl
  · intro K hK
    simp (disch := first | omega | decide) only [go_sem, f0, act_fieldAddr_t fo70_2, List.map]
    first | rw [mwp_fieldAddr_b (by simp (disch := first | omega | decide) only [go_sem, f0]; rfl)] | skip
    exact hK _
  apply aops_step (by decide) rfl
  · intro K hK
    simp (disch := first | omega | decide) only [go_sem, f0, act_load_t ti68, List.map]
    first | rw [mwp_load_i1 (by rfl)] | rw [mwp_load_g1 (by first | (rw [hG]; rfl) | rfl | (simp only [mset_G, hG]; rfl)) (by rfl)] | rw [mwp_load_gs (by first | (rw [hG]; rfl) | rfl | (simp only [mset_G, hG]; rfl)) (by simp)] | rw [mwp_load_bs (by simp (disch := first | omega | decide) only [go_sem, f0]; rfl) (by simp [setAt])] | rw [mwp_load_b1 (by simp (disch := first | omega | decide) only [go_sem, f0]; rfl) (by rfl)] | rw [mwp_aLoad_map (by simp (disch := first | omega | decide) only [go_sem, f0]; rfl) (by first | omega | decide | (simp; omega)) (fun _ => rfl)] | rw [mwp_aLoad_frz (by simp (disch := first | omega | decide) only [go_sem, f0]; rfl) (by first | omega | decide | (simp; omega)) (fun _ => rfl)] | rw [mwp_aLoad_e1 (by simp (disch := first | omega | decide) only [go_sem, f0]; rfl) (by first | rfl | simp) rfl] | rw [mwp_aLoad_f1 (by simp (disch := first | omega | decide) only [go_sem, f0]; rfl) (by rfl) rfl] | skip
    exact hK _
  apply aops_step (by decide) rfl
  · intro K hK
    simp (disch := first | omega | decide) only [go_sem, f0, act_fieldAddr_t fo70_3, List.map]
    first | rw [mwp_fieldAddr_b (by simp (disch := first | omega | decide) only [go_sem, f0]; rfl)] | skip
    exact hK _
  apply aops_step (by decide) rfl
  · intro K hK
    simp (disch := first | omega | decide) only [go_sem, f0, act_load_t ti22, List.map]
    first | rw [mwp_load_i1 (by rfl)] | rw [mwp_load_g1 (by first | (rw [hG]; rfl) | rfl | (simp only [mset_G, hG]; rfl)) (by rfl)] | rw [mwp_load_gs (by first | (rw [hG]; rfl) | rfl | (simp only [mset_G, hG]; rfl)) (by simp)] | rw [mwp_load_bs (by simp (disch := first | omega | decide) only [go_sem, f0]; rfl) (by simp [setAt])] | rw [mwp_load_b1 (by simp (disch := first | omega | decide) only [go_sem, f0]; rfl) (by rfl)] | rw [mwp_aLoad_map (by simp (disch := first | omega | decide) only [go_sem, f0]; rfl) (by first | omega | decide | (simp; omega)) (fun _ => rfl)] | rw [mwp_aLoad_frz (by simp (disch := first | omega | decide) only [go_sem, f0]; rfl) (by first | omega | decide | (simp; omega)) (fun _ => rfl)] | rw [mwp_aLoad_e1 (by simp (disch := first | omega | decide) only [go_sem, f0]; rfl) (by first | rfl | simp) rfl] | rw [mwp_aLoad_f1 (by simp (disch := first | omega | decide) only [go_sem, f0]; rfl) (by rfl) rfl] | skip
    exact hK _
  apply aops_step (by decide) rfl
  · intro K hK
    simp (disch := first | omega | decide) only [go_sem, f0, act_call, List.map]
    apply mwp_call_s rfl rfl rfl
    · intro Q hQ
      simp (disch := first | omega | decide) only [go_sem, f0, peekL, reifyL_nil, reifyL_cons, reify_v]
      first | exact hQ | (((first | rw [peek_own (by simp (disch := first | omega | decide) only [go_sem, f0, peekL, reifyL_nil, reifyL_cons, reify_v]; rfl)] | rw [mwp_reify_own (by simp (disch := first | omega | decide) only [go_sem, f0, peekL, reifyL_nil, reifyL_cons, reify_v]; rfl)] | rw [peek_frz (by simp (disch := first | omega | decide) only [go_sem, f0, peekL, reifyL_nil, reifyL_cons, reify_v]; rfl)] | rw [reify_frz (by simp (disch := first | omega | decide) only [go_sem, f0, peekL, reifyL_nil, reifyL_cons, reify_v]; rfl)]); (try rw [sub_full (by simp)])); exact hQ) | (((first | rw [peek_own (by simp (disch := first | omega | decide) only [go_sem, f0, peekL, reifyL_nil, reifyL_cons, reify_v]; rfl)] | rw [mwp_reify_own (by simp (disch := first | omega | decide) only [go_sem, f0, peekL, reifyL_nil, reifyL_cons, reify_v]; rfl)] | rw [peek_frz (by simp (disch := first | omega | decide) only [go_sem, f0, peekL, reifyL_nil, reifyL_cons, reify_v]; rfl)] | rw [reify_frz (by simp (disch := first | omega | decide) only [go_sem, f0, peekL, reifyL_nil, reifyL_cons, reify_v]; rfl)]); (try rw [sub_full (by simp)])); (try simp (disch := first | omega | decide) only [go_sem, f0, peekL, reifyL_nil, reifyL_cons, reify_v]); ((first | rw [peek_own (by simp (disch := first | omega | decide) only [go_sem, f0, peekL, reifyL_nil, reifyL_cons, reify_v]; rfl)] | rw [mwp_reify_own (by simp (disch := first | omega | decide) only [go_sem, f0, peekL, reifyL_nil, reifyL_cons, reify_v]; rfl)] | rw [peek_frz (by simp (disch := first | omega | decide) only [go_sem, f0, peekL, reifyL_nil, reifyL_cons, reify_v]; rfl)] | rw [reify_frz (by simp (disch := first | omega | decide) only [go_sem, f0, peekL, reifyL_nil, reifyL_cons, reify_v]; rfl)]); (try rw [sub_full (by simp)])); exact hQ) | (((first | rw [peek_own (by simp (disch := first | omega | decide) only [go_sem, f0, peekL, reifyL_nil, reifyL_cons, reify_v]; rfl)] | rw [mwp_reify_own (by simp (disch := first | omega | decide) only [go_sem, f0, peekL, reifyL_nil, reifyL_cons, reify_v]; rfl)] | rw [peek_frz (by simp (disch := first | omega | decide) only [go_sem, f0, peekL, reifyL_nil, reifyL_cons, reify_v]; rfl)] | rw [reify_frz (by simp (disch := first | omega | decide) only [go_sem, f0, peekL, reifyL_nil, reifyL_cons, reify_v]; rfl)]); (try rw [sub_full (by simp)])); simp (disch := first | omega | decide) only [go_sem, f0, peekL, reifyL_nil, reifyL_cons, reify_v]; exact hQ)
    · exact good_puts nil l w n nt t hl hz hn ht hzt
    · simp [-List.map_take, -List.map_drop, -List.map_append, noPtrL, noPtr, noPtrL_bsl, noPtrL_map, sub]
    · rfl
    · exact hK _
  iterate 1 (apply aops_step (by decide) rfl; · (intro K hK; simp (disch := first | omega | decide) only [go_sem, f0]; exact hK _))
  refine aops_nil ?_
  refine AW.ret ?_
  refine ⟨.inr rfl, ?_⟩
  refine leaves_tmp1 2 rfl ?_ (by first | rfl | exact hG)
  simp (disch := first | omega | decide) only [go_sem, f0]

end Go.Vai.O
