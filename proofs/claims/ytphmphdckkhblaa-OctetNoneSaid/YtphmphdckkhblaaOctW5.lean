import Derived.Test.YtphmphdckkhblaaOctW2
namespace Go.Vai.O
open Go.Proofs Go.Vai
set_option linter.unusedSimpArgs false
set_option linter.unusedVariables false
theorem u44 : Try.prog.underlying 44 = some (.slice 3) := by kernel_rfl
theorem pl87 : placesOf Try.prog 87 = some [(0, 1), (1, 1), (2, 1)] := by kernel_rfl
theorem u4 : Try.prog.underlying 4 = some .bool := by kernel_rfl

set_option maxHeartbeats 4000000 in
set_option maxRecDepth 100000 in
theorem good_takeN (n : Int) : Good Try.prog 69 [(.base (.pointer none), false), (i64 n, false)] [] [(.sl 1 true (bsl []), false)] [] := by
  refine good_of_body3 41 Try.func69 rfl rfl rfl (by simp) ?_
  intro s m ha hr hv hG
  have f0 : s 0 = .v (.base (.pointer none)) := ha 0 _ rfl
  have f1 : s 1 = .v (i64 n) := ha 1 _ rfl
  clear ha
  refine AW.seq ?_
  refine AW.region (cfg := cfgP) ?_
  iterate 1 (apply aops_step (by decide) rfl; · (intro K hK; simp (disch := first | omega | decide) only [go_sem, f0, f1]; exact hK _))
  refine aops_nil ?_
  refine AW.seq ?_
  refine AW.seq ?_
  refine AW.region (cfg := cfgP) ?_
  iterate 3 (apply aops_step (by decide) rfl; · (intro K hK; simp (disch := first | omega | decide) only [go_sem, f0, f1, bin_eql_p0 u84, bin_eql_pg u84]; exact hK _))
  apply aops_skip' (by decide) rfl
  apply aops_skip' (by decide) rfl
  apply aops_skip' (by decide) rfl
  apply aops_skip' (by decide) rfl
  iterate 1 (apply aops_step (by decide) rfl; · (intro K hK; simp (disch := first | omega | decide) only [go_sem, f0, f1]; exact hK _))
  refine aops_nil ?_
  apply AW.cond
  · simp (disch := first | omega | decide) only [go_sem, f0, f1]; rfl
  case hf => intro hb; simp at hb
  case ht =>
  intro hb
  have hbt13 := hb
  refine AW.seq ?_
  refine AW.region (cfg := cfgP) ?_
  iterate 1 (apply aops_step (by decide) rfl; · (intro K hK; simp (disch := first | omega | decide) only [go_sem, f0, f1]; exact hK _))
  refine aops_nil ?_
  refine AW.ret ?_
  refine ⟨.inr rfl, ?_⟩
  refine ⟨_, nilEq_nil (nilEq_refl _), leaves_frz1 4 rfl (by simp (disch := first | omega | decide) only [go_sem, f0, f1] <;> rfl) (by simp (disch := first | omega | decide) only [go_sem, f0, f1] <;> rfl) rfl (by first | rfl | exact hG | (simp only [mset_G, hG]; done) | (simp only [mset_G, hG]; rfl))⟩

set_option maxHeartbeats 4000000 in
set_option maxRecDepth 100000 in
theorem good_NumN (k : Int) : Good Try.prog 50 [(.base (.pointer none), false), (i64 k, false)] [] [(.i .u64 0, false)] [] := by
  refine good_of_body2 31 Try.func50 rfl rfl rfl (by simp) ?_
  intro s m ha hr hv hG
  have f0 : s 0 = .v (.base (.pointer none)) := ha 0 _ rfl
  have f1 : s 1 = .v (i64 k) := ha 1 _ rfl
  clear ha
  refine AW.seq ?_
  refine AW.region (cfg := cfgP) ?_
  iterate 1 (apply aops_step (by decide) rfl; · (intro K hK; simp (disch := first | omega | decide) only [go_sem, f0, f1]; exact hK _))
  refine aops_nil ?_
  refine AW.seq ?_
  refine AW.seq ?_
  refine AW.region (cfg := cfgP) ?_
  iterate 1 (apply aops_step (by decide) rfl; · (intro K hK; simp (disch := first | omega | decide) only [go_sem, f0, f1]; exact hK _))
  apply aops_step (by decide) rfl
  · intro K hK
    simp (disch := first | omega | decide) only [go_sem, f0, f1, act_call, List.map]
    apply mwp_call_s rfl rfl rfl
    · intro Q hQ
      simp (disch := first | omega | decide) only [go_sem, f0, f1, peekL, reifyL_nil, reifyL_cons, reify_v]
      first | exact hQ | (((first | rw [peek_own (by simp (disch := first | omega | decide) only [go_sem, f0, f1, peekL, reifyL_nil, reifyL_cons, reify_v]; rfl)] | rw [mwp_reify_own (by simp (disch := first | omega | decide) only [go_sem, f0, f1, peekL, reifyL_nil, reifyL_cons, reify_v]; rfl)] | rw [peek_frz (by simp (disch := first | omega | decide) only [go_sem, f0, f1, peekL, reifyL_nil, reifyL_cons, reify_v]; rfl)] | rw [reify_frz (by simp (disch := first | omega | decide) only [go_sem, f0, f1, peekL, reifyL_nil, reifyL_cons, reify_v]; rfl)]); (try rw [sub_full (by first | (simp only [List.length_map, List.length_replicate]; done) | simp)])); exact hQ) | (((first | rw [peek_own (by simp (disch := first | omega | decide) only [go_sem, f0, f1, peekL, reifyL_nil, reifyL_cons, reify_v]; rfl)] | rw [mwp_reify_own (by simp (disch := first | omega | decide) only [go_sem, f0, f1, peekL, reifyL_nil, reifyL_cons, reify_v]; rfl)] | rw [peek_frz (by simp (disch := first | omega | decide) only [go_sem, f0, f1, peekL, reifyL_nil, reifyL_cons, reify_v]; rfl)] | rw [reify_frz (by simp (disch := first | omega | decide) only [go_sem, f0, f1, peekL, reifyL_nil, reifyL_cons, reify_v]; rfl)]); (try rw [sub_full (by first | (simp only [List.length_map, List.length_replicate]; done) | simp)])); (try simp (disch := first | omega | decide) only [go_sem, f0, f1, peekL, reifyL_nil, reifyL_cons, reify_v]); ((first | rw [peek_own (by simp (disch := first | omega | decide) only [go_sem, f0, f1, peekL, reifyL_nil, reifyL_cons, reify_v]; rfl)] | rw [mwp_reify_own (by simp (disch := first | omega | decide) only [go_sem, f0, f1, peekL, reifyL_nil, reifyL_cons, reify_v]; rfl)] | rw [peek_frz (by simp (disch := first | omega | decide) only [go_sem, f0, f1, peekL, reifyL_nil, reifyL_cons, reify_v]; rfl)] | rw [reify_frz (by simp (disch := first | omega | decide) only [go_sem, f0, f1, peekL, reifyL_nil, reifyL_cons, reify_v]; rfl)]); (try rw [sub_full (by first | (simp only [List.length_map, List.length_replicate]; done) | simp)])); exact hQ) | (((first | rw [peek_own (by simp (disch := first | omega | decide) only [go_sem, f0, f1, peekL, reifyL_nil, reifyL_cons, reify_v]; rfl)] | rw [mwp_reify_own (by simp (disch := first | omega | decide) only [go_sem, f0, f1, peekL, reifyL_nil, reifyL_cons, reify_v]; rfl)] | rw [peek_frz (by simp (disch := first | omega | decide) only [go_sem, f0, f1, peekL, reifyL_nil, reifyL_cons, reify_v]; rfl)] | rw [reify_frz (by simp (disch := first | omega | decide) only [go_sem, f0, f1, peekL, reifyL_nil, reifyL_cons, reify_v]; rfl)]); (try rw [sub_full (by first | (simp only [List.length_map, List.length_replicate]; done) | simp)])); simp (disch := first | omega | decide) only [go_sem, f0, f1, peekL, reifyL_nil, reifyL_cons, reify_v]; exact hQ)
    · exact good_mayO _
    · simp [-List.map_take, -List.map_drop, -List.map_append, -List.map_replicate, -List.reduceReplicate, noPtrL, noPtr, noPtrL_bsl, noPtrL_map, sub]
    · rfl
    · exact hK _
  iterate 1 (apply aops_step (by decide) rfl; · (intro K hK; simp (disch := first | omega | decide) only [go_sem, f0, f1]; exact hK _))
  refine aops_nil ?_
  apply AW.cond
  · simp (disch := first | omega | decide) only [go_sem, f0, f1]; rfl
  case ht =>
    intro hb
    try simp only [Bool.or_eq_true, Bool.and_eq_true, Bool.or_eq_false_iff, Bool.and_eq_false_iff, decide_eq_true_eq, decide_eq_false_iff_not] at hb
    have hbt10 := hb
    refine AW.seq ?_
    refine AW.seq ?_
    refine AW.region (cfg := cfgP) ?_
    iterate 2 (apply aops_step (by decide) rfl; · (intro K hK; simp (disch := first | omega | decide) only [go_sem, f0, f1, bin_neq_p0 u84, bin_neq_pg u84]; exact hK _))
    refine aops_nil ?_
    apply AW.cond
    · simp (disch := first | omega | decide) only [go_sem, f0, f1]; rfl
    case ht => intro hb; simp at hb
    case hf =>
    intro hb
    have hbt12 := hb
    refine AW.skip ?_
    refine AW.seq ?_
    refine AW.region (cfg := cfgP) ?_
    iterate 1 (apply aops_step (by decide) rfl; · (intro K hK; simp (disch := first | omega | decide) only [go_sem, f0, f1]; exact hK _))
    refine aops_nil ?_
    refine AW.ret ?_
    refine ⟨.inr rfl, ?_⟩
    refine leaves_tmp1 4 rfl ?_ (by first | rfl | exact hG)
    simp (disch := first | omega | decide) only [go_sem, f0, f1]
    all_goals first | done | rfl
  case hf =>
    intro hb
    try simp only [Bool.or_eq_true, Bool.and_eq_true, Bool.or_eq_false_iff, Bool.and_eq_false_iff, decide_eq_true_eq, decide_eq_false_iff_not] at hb
    have hbt10 := hb
    refine AW.skip ?_
    refine AW.seq ?_
    refine AW.region (cfg := cfgP) ?_
    iterate 1 (apply aops_step (by decide) rfl; · (intro K hK; simp (disch := first | omega | decide) only [go_sem, f0, f1]; exact hK _))
    refine aops_nil ?_
    refine AW.seq ?_
    refine AW.seq ?_
    refine AW.region (cfg := cfgP) ?_
    iterate 2 (apply aops_step (by decide) rfl; · (intro K hK; simp (disch := first | omega | decide) only [go_sem, f0, f1]; exact hK _))
    apply aops_step (by decide) rfl
    · intro K hK
      simp (disch := first | omega | decide) only [go_sem, f0, f1, act_call, List.map]
      apply mwp_call_r rfl rfl rfl
      · intro Q hQ
        simp (disch := first | omega | decide) only [go_sem, f0, f1, peekL, reifyL_nil, reifyL_cons, reify_v]
        first | exact hQ | (((first | rw [peek_own (by simp (disch := first | omega | decide) only [go_sem, f0, f1, peekL, reifyL_nil, reifyL_cons, reify_v]; rfl)] | rw [mwp_reify_own (by simp (disch := first | omega | decide) only [go_sem, f0, f1, peekL, reifyL_nil, reifyL_cons, reify_v]; rfl)] | rw [peek_frz (by simp (disch := first | omega | decide) only [go_sem, f0, f1, peekL, reifyL_nil, reifyL_cons, reify_v]; rfl)] | rw [reify_frz (by simp (disch := first | omega | decide) only [go_sem, f0, f1, peekL, reifyL_nil, reifyL_cons, reify_v]; rfl)]); (try rw [sub_full (by first | (simp only [List.length_map, List.length_replicate]; done) | simp)])); exact hQ) | (((first | rw [peek_own (by simp (disch := first | omega | decide) only [go_sem, f0, f1, peekL, reifyL_nil, reifyL_cons, reify_v]; rfl)] | rw [mwp_reify_own (by simp (disch := first | omega | decide) only [go_sem, f0, f1, peekL, reifyL_nil, reifyL_cons, reify_v]; rfl)] | rw [peek_frz (by simp (disch := first | omega | decide) only [go_sem, f0, f1, peekL, reifyL_nil, reifyL_cons, reify_v]; rfl)] | rw [reify_frz (by simp (disch := first | omega | decide) only [go_sem, f0, f1, peekL, reifyL_nil, reifyL_cons, reify_v]; rfl)]); (try rw [sub_full (by first | (simp only [List.length_map, List.length_replicate]; done) | simp)])); (try simp (disch := first | omega | decide) only [go_sem, f0, f1, peekL, reifyL_nil, reifyL_cons, reify_v]); ((first | rw [peek_own (by simp (disch := first | omega | decide) only [go_sem, f0, f1, peekL, reifyL_nil, reifyL_cons, reify_v]; rfl)] | rw [mwp_reify_own (by simp (disch := first | omega | decide) only [go_sem, f0, f1, peekL, reifyL_nil, reifyL_cons, reify_v]; rfl)] | rw [peek_frz (by simp (disch := first | omega | decide) only [go_sem, f0, f1, peekL, reifyL_nil, reifyL_cons, reify_v]; rfl)] | rw [reify_frz (by simp (disch := first | omega | decide) only [go_sem, f0, f1, peekL, reifyL_nil, reifyL_cons, reify_v]; rfl)]); (try rw [sub_full (by first | (simp only [List.length_map, List.length_replicate]; done) | simp)])); exact hQ) | (((first | rw [peek_own (by simp (disch := first | omega | decide) only [go_sem, f0, f1, peekL, reifyL_nil, reifyL_cons, reify_v]; rfl)] | rw [mwp_reify_own (by simp (disch := first | omega | decide) only [go_sem, f0, f1, peekL, reifyL_nil, reifyL_cons, reify_v]; rfl)] | rw [peek_frz (by simp (disch := first | omega | decide) only [go_sem, f0, f1, peekL, reifyL_nil, reifyL_cons, reify_v]; rfl)] | rw [reify_frz (by simp (disch := first | omega | decide) only [go_sem, f0, f1, peekL, reifyL_nil, reifyL_cons, reify_v]; rfl)]); (try rw [sub_full (by first | (simp only [List.length_map, List.length_replicate]; done) | simp)])); simp (disch := first | omega | decide) only [go_sem, f0, f1, peekL, reifyL_nil, reifyL_cons, reify_v]; exact hQ)
      · exact good_takeN _
      · simp [-List.map_take, -List.map_drop, -List.map_append, -List.map_replicate, -List.reduceReplicate, noPtrL, noPtr, noPtrL_bsl, noPtrL_map, sub]
      · simp (disch := first | omega | decide) only [go_sem, f0, f1]
        exact hK _
    iterate 2 (apply aops_step (by decide) rfl; · (intro K hK; simp (disch := first | omega | decide) only [go_sem, f0, f1, List.map, List.length_map, aops_len u22]; exact hK _))
    refine aops_nil ?_
    refine AW.block ?_
    refine AW.forN (fun j σ => ∃ s m, σ = ⟨31, s, m⟩ ∧ s 5 = .v (.i .u64 0) ∧ s 18 = .v (.sl 1 true (bsl [])) ∧ s 19 = .v (i64 (([] : List (BitVec 8)).length : Int)) ∧ s 20 = .v (i64 (j : Int)) ∧ m.G = []) (0) ?_ ?_ ?_
    · refine ⟨_, _, rfl, ?_, ?_, ?_, ?_, (by first | exact hG | rfl | (simp only [mset_G, hG]; done) | (simp only [mset_G, hG]; rfl))⟩ <;> try simp (disch := first | omega | decide) only [go_sem, f0, f1]
      all_goals first | rfl | (simp; done)
    · clear f0 f1 hG
      rintro j σ hj ⟨s, m, rfl, f5, f18, f19, f20, hG⟩
      exact absurd hj (Nat.not_lt_zero _)
    · clear f0 f1 hG
      rintro σ ⟨s, m, rfl, f5, f18, f19, f20, hG⟩
      refine AW.seq ?_
      refine AW.region (cfg := cfgP) ?_
      iterate 1 (apply aops_step (by decide) rfl; · (intro K hK; simp (disch := first | omega | decide) only [go_sem, f5, f18, f19, f20]; exact hK _))
      refine aops_nil ?_
      refine AW.seq ?_
      apply AW.cond
      · simp (disch := first | omega | decide) only [go_sem, f5, f18, f19, f20]; rfl
      case ht => intro hb; first | (simp at hb; done) | (simp at hb; omega)
      case hf =>
      intro hb
      have hbt21 := hb
      refine AW.exit ?_
      refine AW.seq ?_
      refine AW.region (cfg := cfgP) ?_
      iterate 2 (apply aops_step (by decide) rfl; · (intro K hK; simp (disch := first | omega | decide) only [go_sem, f5, f18, f19, f20]; exact hK _))
      refine aops_nil ?_
      refine AW.ret ?_
      refine ⟨.inr rfl, ?_⟩
      refine leaves_tmp1 4 rfl ?_ (by first | rfl | exact hG)
      simp (disch := first | omega | decide) only [go_sem, f5, f18, f19, f20]
      all_goals first | done | rfl

set_option maxHeartbeats 4000000 in
set_option maxRecDepth 100000 in
theorem good_TextN  : Good Try.prog 48 [(.base (.pointer none), false)] [] [(.sl 1 true (bsl []), false)] [] := by
  refine good_of_body3 32 Try.func48 rfl rfl rfl (by simp) ?_
  intro s m ha hr hv hG
  have f0 : s 0 = .v (.base (.pointer none)) := ha 0 _ rfl
  clear ha
  refine AW.seq ?_
  refine AW.region (cfg := cfgP) ?_
  iterate 1 (apply aops_step (by decide) rfl; · (intro K hK; simp (disch := first | omega | decide) only [go_sem, f0]; exact hK _))
  refine aops_nil ?_
  refine AW.seq ?_
  refine AW.seq ?_
  refine AW.region (cfg := cfgP) ?_
  iterate 3 (apply aops_step (by decide) rfl; · (intro K hK; simp (disch := first | omega | decide) only [go_sem, f0, bin_eql_p0 u84, bin_eql_pg u84]; exact hK _))
  apply aops_skip' (by decide) rfl
  apply aops_skip' (by decide) rfl
  apply aops_skip' (by decide) rfl
  apply aops_skip' (by decide) rfl
  iterate 1 (apply aops_step (by decide) rfl; · (intro K hK; simp (disch := first | omega | decide) only [go_sem, f0]; exact hK _))
  refine aops_nil ?_
  apply AW.cond
  · simp (disch := first | omega | decide) only [go_sem, f0]; rfl
  case hf => intro hb; simp at hb
  case ht =>
  intro hb
  have hbt12 := hb
  refine AW.seq ?_
  refine AW.region (cfg := cfgP) ?_
  iterate 1 (apply aops_step (by decide) rfl; · (intro K hK; simp (disch := first | omega | decide) only [go_sem, f0]; exact hK _))
  refine aops_nil ?_
  refine AW.ret ?_
  refine ⟨.inr rfl, ?_⟩
  refine ⟨_, nilEq_nil (nilEq_refl _), leaves_frz1 2 rfl (by simp (disch := first | omega | decide) only [go_sem, f0] <;> rfl) (by simp (disch := first | omega | decide) only [go_sem, f0] <;> rfl) rfl (by first | rfl | exact hG | (simp only [mset_G, hG]; done) | (simp only [mset_G, hG]; rfl))⟩

set_option maxHeartbeats 4000000 in
set_option maxRecDepth 100000 in
theorem good_LeftN  : Good Try.prog 51 [(.base (.pointer none), false)] [] [(i64 0, false)] [] := by
  refine good_of_body2 10 Try.func51 rfl rfl rfl (by simp) ?_
  intro s m ha hr hv hG
  have f0 : s 0 = .v (.base (.pointer none)) := ha 0 _ rfl
  clear ha
  refine AW.seq ?_
  refine AW.region (cfg := cfgP) ?_
  iterate 1 (apply aops_step (by decide) rfl; · (intro K hK; simp (disch := first | omega | decide) only [go_sem, f0]; exact hK _))
  refine aops_nil ?_
  refine AW.seq ?_
  refine AW.seq ?_
  refine AW.region (cfg := cfgP) ?_
  iterate 2 (apply aops_step (by decide) rfl; · (intro K hK; simp (disch := first | omega | decide) only [go_sem, f0, bin_eql_p0 u84, bin_eql_pg u84]; exact hK _))
  refine aops_nil ?_
  apply AW.cond
  · simp (disch := first | omega | decide) only [go_sem, f0]; rfl
  case hf => intro hb; simp at hb
  case ht =>
  intro hb
  have hbt4 := hb
  refine AW.seq ?_
  refine AW.region (cfg := cfgP) ?_
  iterate 1 (apply aops_step (by decide) rfl; · (intro K hK; simp (disch := first | omega | decide) only [go_sem, f0]; exact hK _))
  refine aops_nil ?_
  refine AW.ret ?_
  refine ⟨.inr rfl, ?_⟩
  refine leaves_tmp1 2 rfl ?_ (by first | rfl | exact hG)
  simp (disch := first | omega | decide) only [go_sem, f0]

set_option maxHeartbeats 4000000 in
set_option maxRecDepth 100000 in
theorem good_WrongN  : Good Try.prog 52 [(.base (.pointer none), false)] [] [(.b true, false)] [] := by
  refine good_of_body2 11 Try.func52 rfl rfl rfl (by simp) ?_
  intro s m ha hr hv hG
  have f0 : s 0 = .v (.base (.pointer none)) := ha 0 _ rfl
  clear ha
  refine AW.seq ?_
  refine AW.region (cfg := cfgP) ?_
  iterate 1 (apply aops_step (by decide) rfl; · (intro K hK; simp (disch := first | omega | decide) only [go_sem, f0]; exact hK _))
  refine aops_nil ?_
  refine AW.seq ?_
  refine AW.region (cfg := cfgP) ?_
  iterate 3 (apply aops_step (by decide) rfl; · (intro K hK; simp (disch := first | omega | decide) only [go_sem, f0, bin_eql_p0 u84, bin_eql_pg u84]; exact hK _))
  apply aops_skip' (by decide) rfl
  apply aops_skip' (by decide) rfl
  apply aops_skip' (by decide) rfl
  apply aops_skip' (by decide) rfl
  iterate 2 (apply aops_step (by decide) rfl; · (intro K hK; simp (disch := first | omega | decide) only [go_sem, f0]; exact hK _))
  refine aops_nil ?_
  refine AW.ret ?_
  refine ⟨.inr rfl, ?_⟩
  refine leaves_tmp1 2 rfl ?_ (by first | rfl | exact hG)
  simp (disch := first | omega | decide) only [go_sem, f0]

set_option maxHeartbeats 4000000 in
set_option maxRecDepth 100000 in
theorem good_DoneN  : Good Try.prog 53 [(.base (.pointer none), false)] [] [(.b false, false)] [] := by
  refine good_of_body2 14 Try.func53 rfl rfl rfl (by simp) ?_
  intro s m ha hr hv hG
  have f0 : s 0 = .v (.base (.pointer none)) := ha 0 _ rfl
  clear ha
  refine AW.seq ?_
  refine AW.region (cfg := cfgP) ?_
  iterate 1 (apply aops_step (by decide) rfl; · (intro K hK; simp (disch := first | omega | decide) only [go_sem, f0, Bool.not_true]; exact hK _))
  refine aops_nil ?_
  refine AW.seq ?_
  refine AW.region (cfg := cfgP) ?_
  iterate 1 (apply aops_step (by decide) rfl; · (intro K hK; simp (disch := first | omega | decide) only [go_sem, f0, Bool.not_true]; exact hK _))
  apply aops_step (by decide) rfl
  · intro K hK
    simp (disch := first | omega | decide) only [go_sem, f0, act_call, List.map, Bool.not_true]
    apply mwp_call_r rfl rfl rfl
    · intro Q hQ
      simp (disch := first | omega | decide) only [go_sem, f0, peekL, reifyL_nil, reifyL_cons, reify_v, Bool.not_true]
      first | exact hQ | (((first | rw [peek_own (by simp (disch := first | omega | decide) only [go_sem, f0, peekL, reifyL_nil, reifyL_cons, reify_v, Bool.not_true]; rfl)] | rw [mwp_reify_own (by simp (disch := first | omega | decide) only [go_sem, f0, peekL, reifyL_nil, reifyL_cons, reify_v, Bool.not_true]; rfl)] | rw [peek_frz (by simp (disch := first | omega | decide) only [go_sem, f0, peekL, reifyL_nil, reifyL_cons, reify_v, Bool.not_true]; rfl)] | rw [reify_frz (by simp (disch := first | omega | decide) only [go_sem, f0, peekL, reifyL_nil, reifyL_cons, reify_v, Bool.not_true]; rfl)]); (try rw [sub_full (by first | (simp only [List.length_map, List.length_replicate]; done) | simp)])); exact hQ) | (((first | rw [peek_own (by simp (disch := first | omega | decide) only [go_sem, f0, peekL, reifyL_nil, reifyL_cons, reify_v, Bool.not_true]; rfl)] | rw [mwp_reify_own (by simp (disch := first | omega | decide) only [go_sem, f0, peekL, reifyL_nil, reifyL_cons, reify_v, Bool.not_true]; rfl)] | rw [peek_frz (by simp (disch := first | omega | decide) only [go_sem, f0, peekL, reifyL_nil, reifyL_cons, reify_v, Bool.not_true]; rfl)] | rw [reify_frz (by simp (disch := first | omega | decide) only [go_sem, f0, peekL, reifyL_nil, reifyL_cons, reify_v, Bool.not_true]; rfl)]); (try rw [sub_full (by first | (simp only [List.length_map, List.length_replicate]; done) | simp)])); (try simp (disch := first | omega | decide) only [go_sem, f0, peekL, reifyL_nil, reifyL_cons, reify_v, Bool.not_true]); ((first | rw [peek_own (by simp (disch := first | omega | decide) only [go_sem, f0, peekL, reifyL_nil, reifyL_cons, reify_v, Bool.not_true]; rfl)] | rw [mwp_reify_own (by simp (disch := first | omega | decide) only [go_sem, f0, peekL, reifyL_nil, reifyL_cons, reify_v, Bool.not_true]; rfl)] | rw [peek_frz (by simp (disch := first | omega | decide) only [go_sem, f0, peekL, reifyL_nil, reifyL_cons, reify_v, Bool.not_true]; rfl)] | rw [reify_frz (by simp (disch := first | omega | decide) only [go_sem, f0, peekL, reifyL_nil, reifyL_cons, reify_v, Bool.not_true]; rfl)]); (try rw [sub_full (by first | (simp only [List.length_map, List.length_replicate]; done) | simp)])); exact hQ) | (((first | rw [peek_own (by simp (disch := first | omega | decide) only [go_sem, f0, peekL, reifyL_nil, reifyL_cons, reify_v, Bool.not_true]; rfl)] | rw [mwp_reify_own (by simp (disch := first | omega | decide) only [go_sem, f0, peekL, reifyL_nil, reifyL_cons, reify_v, Bool.not_true]; rfl)] | rw [peek_frz (by simp (disch := first | omega | decide) only [go_sem, f0, peekL, reifyL_nil, reifyL_cons, reify_v, Bool.not_true]; rfl)] | rw [reify_frz (by simp (disch := first | omega | decide) only [go_sem, f0, peekL, reifyL_nil, reifyL_cons, reify_v, Bool.not_true]; rfl)]); (try rw [sub_full (by first | (simp only [List.length_map, List.length_replicate]; done) | simp)])); simp (disch := first | omega | decide) only [go_sem, f0, peekL, reifyL_nil, reifyL_cons, reify_v, Bool.not_true]; exact hQ)
    · exact good_WrongN
    · simp [-List.map_take, -List.map_drop, -List.map_append, -List.map_replicate, -List.reduceReplicate, noPtrL, noPtr, noPtrL_bsl, noPtrL_map, sub]
    · simp (disch := first | omega | decide) only [go_sem, f0, Bool.not_true]
      exact hK _
  iterate 2 (apply aops_step (by decide) rfl; · (intro K hK; simp (disch := first | omega | decide) only [go_sem, f0, Bool.not_true]; exact hK _))
  apply aops_skip' (by decide) rfl
  apply aops_skip' (by decide) rfl
  apply aops_skip' (by decide) rfl
  apply aops_skip' (by decide) rfl
  apply aops_skip' (by decide) rfl
  apply aops_skip' (by decide) rfl
  iterate 2 (apply aops_step (by decide) rfl; · (intro K hK; simp (disch := first | omega | decide) only [go_sem, f0, Bool.not_true]; exact hK _))
  refine aops_nil ?_
  refine AW.ret ?_
  refine ⟨.inr rfl, ?_⟩
  refine leaves_tmp1 2 rfl ?_ (by first | rfl | exact hG)
  simp (disch := first | omega | decide) only [go_sem, f0, Bool.not_true]

theorem txO_no {t : List (BitVec 8)} (h : t.length > 65535) : txO t = false := by simp [txO]; omega
theorem txR_no {l t : List (BitVec 8)} (h : t.length > 65535) : txR l t = l := by simp [txR, txO_no h]
theorem rep_bsl (n : Nat) : List.replicate n (.base (.int .u8 0) : AV) = bsl (List.replicate n 0#8) := by simp
set_option maxHeartbeats 4000000 in
set_option maxRecDepth 100000 in
theorem good_OctetNone (nil : Bool) (l : List (BitVec 8)) (mo : Int) (hl : l.length ≤ 9223372036854775807) (hz : nil = true → l = []) (hm : 0 ≤ mo ∧ mo ≤ 255) : Good Try.prog 16 [(.sl 1 nil (bsl l), false), (.i .u8 mo, false)] [] [(.b true, false)] [] := by
  refine good_of_body2 71 Try.func16 rfl rfl rfl (by simp) ?_
  intro s m ha hr hv hG
  have f0 : s 0 = .v (.sl 1 nil (bsl l)) := ha 0 _ rfl
  have f1 : s 1 = .v (.i .u8 mo) := ha 1 _ rfl
  clear ha
  refine AW.seq ?_
  refine AW.region (cfg := cfgP) ?_
  iterate 1 (apply aops_step (by decide) rfl; · (intro K hK; simp (disch := first | omega | decide) only [go_sem, f0, f1, eq_self, decide_true, Bool.not_false, Bool.not_true, rep_bsl, Int.reduceToNat, List.length_map, List.nil_append]; exact hK _))
  refine aops_nil ?_
  refine AW.seq ?_
  refine AW.seq ?_
  refine AW.region (cfg := cfgP) ?_
  iterate 3 (apply aops_step (by decide) rfl; · (intro K hK; simp (disch := first | omega | decide) only [go_sem, f0, f1, List.map, List.length_map, aops_len u22, eq_self, decide_true, Bool.not_false, Bool.not_true, rep_bsl, Int.reduceToNat, List.nil_append]; exact hK _))
  refine aops_nil ?_
  apply AW.cond
  · simp (disch := first | omega | decide) only [go_sem, f0, f1, eq_self, decide_true, Bool.not_false, Bool.not_true, rep_bsl, Int.reduceToNat, List.length_map, List.nil_append]; rfl
  case ht =>
    intro hb
    try simp only [Bool.or_eq_true, Bool.and_eq_true, Bool.or_eq_false_iff, Bool.and_eq_false_iff, decide_eq_true_eq, decide_eq_false_iff_not] at hb
    have hbt12 := hb
    refine AW.seq ?_
    refine AW.region (cfg := cfgP) ?_
    apply aops_step (by decide) rfl
    · intro K hK
      simp (disch := first | omega | decide) only [go_sem, f0, f1, act_call, List.map, eq_self, decide_true, Bool.not_false, Bool.not_true, rep_bsl, Int.reduceToNat, List.length_map, List.nil_append]
      apply mwp_call_s rfl rfl rfl
      · intro Q hQ
        simp (disch := first | omega | decide) only [go_sem, f0, f1, peekL, reifyL_nil, reifyL_cons, reify_v, eq_self, decide_true, Bool.not_false, Bool.not_true, rep_bsl, Int.reduceToNat, List.length_map, List.nil_append]
        first | exact hQ | (((first | rw [peek_own (by simp (disch := first | omega | decide) only [go_sem, f0, f1, peekL, reifyL_nil, reifyL_cons, reify_v, eq_self, decide_true, Bool.not_false, Bool.not_true, rep_bsl, Int.reduceToNat, List.length_map, List.nil_append]; rfl)] | rw [mwp_reify_own (by simp (disch := first | omega | decide) only [go_sem, f0, f1, peekL, reifyL_nil, reifyL_cons, reify_v, eq_self, decide_true, Bool.not_false, Bool.not_true, rep_bsl, Int.reduceToNat, List.length_map, List.nil_append]; rfl)] | rw [peek_frz (by simp (disch := first | omega | decide) only [go_sem, f0, f1, peekL, reifyL_nil, reifyL_cons, reify_v, eq_self, decide_true, Bool.not_false, Bool.not_true, rep_bsl, Int.reduceToNat, List.length_map, List.nil_append]; rfl)] | rw [reify_frz (by simp (disch := first | omega | decide) only [go_sem, f0, f1, peekL, reifyL_nil, reifyL_cons, reify_v, eq_self, decide_true, Bool.not_false, Bool.not_true, rep_bsl, Int.reduceToNat, List.length_map, List.nil_append]; rfl)]); (try rw [sub_full (by first | (simp only [List.length_map, List.length_replicate]; done) | simp)])); exact hQ) | (((first | rw [peek_own (by simp (disch := first | omega | decide) only [go_sem, f0, f1, peekL, reifyL_nil, reifyL_cons, reify_v, eq_self, decide_true, Bool.not_false, Bool.not_true, rep_bsl, Int.reduceToNat, List.length_map, List.nil_append]; rfl)] | rw [mwp_reify_own (by simp (disch := first | omega | decide) only [go_sem, f0, f1, peekL, reifyL_nil, reifyL_cons, reify_v, eq_self, decide_true, Bool.not_false, Bool.not_true, rep_bsl, Int.reduceToNat, List.length_map, List.nil_append]; rfl)] | rw [peek_frz (by simp (disch := first | omega | decide) only [go_sem, f0, f1, peekL, reifyL_nil, reifyL_cons, reify_v, eq_self, decide_true, Bool.not_false, Bool.not_true, rep_bsl, Int.reduceToNat, List.length_map, List.nil_append]; rfl)] | rw [reify_frz (by simp (disch := first | omega | decide) only [go_sem, f0, f1, peekL, reifyL_nil, reifyL_cons, reify_v, eq_self, decide_true, Bool.not_false, Bool.not_true, rep_bsl, Int.reduceToNat, List.length_map, List.nil_append]; rfl)]); (try rw [sub_full (by first | (simp only [List.length_map, List.length_replicate]; done) | simp)])); (try simp (disch := first | omega | decide) only [go_sem, f0, f1, peekL, reifyL_nil, reifyL_cons, reify_v, eq_self, decide_true, Bool.not_false, Bool.not_true, rep_bsl, Int.reduceToNat, List.length_map, List.nil_append]); ((first | rw [peek_own (by simp (disch := first | omega | decide) only [go_sem, f0, f1, peekL, reifyL_nil, reifyL_cons, reify_v, eq_self, decide_true, Bool.not_false, Bool.not_true, rep_bsl, Int.reduceToNat, List.length_map, List.nil_append]; rfl)] | rw [mwp_reify_own (by simp (disch := first | omega | decide) only [go_sem, f0, f1, peekL, reifyL_nil, reifyL_cons, reify_v, eq_self, decide_true, Bool.not_false, Bool.not_true, rep_bsl, Int.reduceToNat, List.length_map, List.nil_append]; rfl)] | rw [peek_frz (by simp (disch := first | omega | decide) only [go_sem, f0, f1, peekL, reifyL_nil, reifyL_cons, reify_v, eq_self, decide_true, Bool.not_false, Bool.not_true, rep_bsl, Int.reduceToNat, List.length_map, List.nil_append]; rfl)] | rw [reify_frz (by simp (disch := first | omega | decide) only [go_sem, f0, f1, peekL, reifyL_nil, reifyL_cons, reify_v, eq_self, decide_true, Bool.not_false, Bool.not_true, rep_bsl, Int.reduceToNat, List.length_map, List.nil_append]; rfl)]); (try rw [sub_full (by first | (simp only [List.length_map, List.length_replicate]; done) | simp)])); exact hQ) | (((first | rw [peek_own (by simp (disch := first | omega | decide) only [go_sem, f0, f1, peekL, reifyL_nil, reifyL_cons, reify_v, eq_self, decide_true, Bool.not_false, Bool.not_true, rep_bsl, Int.reduceToNat, List.length_map, List.nil_append]; rfl)] | rw [mwp_reify_own (by simp (disch := first | omega | decide) only [go_sem, f0, f1, peekL, reifyL_nil, reifyL_cons, reify_v, eq_self, decide_true, Bool.not_false, Bool.not_true, rep_bsl, Int.reduceToNat, List.length_map, List.nil_append]; rfl)] | rw [peek_frz (by simp (disch := first | omega | decide) only [go_sem, f0, f1, peekL, reifyL_nil, reifyL_cons, reify_v, eq_self, decide_true, Bool.not_false, Bool.not_true, rep_bsl, Int.reduceToNat, List.length_map, List.nil_append]; rfl)] | rw [reify_frz (by simp (disch := first | omega | decide) only [go_sem, f0, f1, peekL, reifyL_nil, reifyL_cons, reify_v, eq_self, decide_true, Bool.not_false, Bool.not_true, rep_bsl, Int.reduceToNat, List.length_map, List.nil_append]; rfl)]); (try rw [sub_full (by first | (simp only [List.length_map, List.length_replicate]; done) | simp)])); simp (disch := first | omega | decide) only [go_sem, f0, f1, peekL, reifyL_nil, reifyL_cons, reify_v, eq_self, decide_true, Bool.not_false, Bool.not_true, rep_bsl, Int.reduceToNat, List.length_map, List.nil_append]; exact hQ)
      · exact good_awake
      · simp [-List.map_take, -List.map_drop, -List.map_append, -List.map_replicate, -List.reduceReplicate, noPtrL, noPtr, noPtrL_bsl, noPtrL_map, sub]
      · rfl
      · exact hK _
    iterate 1 (apply aops_step (by decide) rfl; · (intro K hK; simp (disch := first | omega | decide) only [go_sem, f0, f1, eq_self, decide_true, Bool.not_false, Bool.not_true, rep_bsl, Int.reduceToNat, List.length_map, List.nil_append]; exact hK _))
    refine aops_nil ?_
    refine AW.ret ?_
    refine ⟨.inr rfl, ?_⟩
    refine leaves_tmp1 4 rfl ?_ (by first | rfl | exact hG)
    simp (disch := first | omega | decide) only [go_sem, f0, f1, eq_self, decide_true, Bool.not_false, Bool.not_true, rep_bsl, Int.reduceToNat, List.length_map, List.nil_append]
    all_goals first | done | trace_state
  case hf =>
    intro hb
    try simp only [Bool.or_eq_true, Bool.and_eq_true, Bool.or_eq_false_iff, Bool.and_eq_false_iff, decide_eq_true_eq, decide_eq_false_iff_not] at hb
    have hbt12 := hb
    refine AW.skip ?_
    refine AW.seq ?_
    have qo1 : txO (List.replicate (65536 + mo).toNat 0#8) = false := txO_no (by rw [List.length_replicate]; omega)
    have qo2 : txR l (List.replicate (65536 + mo).toNat 0#8) = l := txR_no (by rw [List.length_replicate]; omega)
    have qo3 : txO (List.replicate 65535 0#8) = true := txO_ok (by rw [List.length_replicate]; omega)
    have qo4 : txR [] (List.replicate 65535 0#8) = [] ++ (numR (((List.replicate 65535 0#8).length : Nat) : Int) 2 ++ List.replicate 65535 0#8) := txR_ok (by rw [List.length_replicate]; omega)
    have qo5 : ∀ x : Int, (((numR x 2 ++ List.replicate 65535 0#8).length : Nat) : Int) = 65537 := fun x => by rw [List.length_append, numR_length, List.length_replicate]; rfl
    refine AW.region (cfg := cfgP) ?_
    iterate 4 (apply aops_step (by decide) rfl; · (intro K hK; simp (disch := first | omega | decide) only [go_sem, f0, f1, qo1, qo2, qo3, qo4, qo5, act_convI u5 u3, eq_self, decide_true, Bool.not_false, Bool.not_true, rep_bsl, Int.reduceToNat, List.length_map, List.nil_append]; exact hK _))
    apply aops_step (by decide) rfl
    · intro K hK
      rw [act_make el22 ti5]
      simp (disch := first | omega | decide) only [go_sem, f0, f1, qo1, qo2, qo3, qo4, qo5, eq_self, decide_true, Bool.not_false, Bool.not_true, rep_bsl, Int.reduceToNat, List.length_map, List.nil_append]
      rw [mwp_make (by first | (simp [roomB]; done) | (simp [roomB]; omega))]
      exact hK _
    apply aops_step (by decide) rfl
    · intro K hK
      simp (disch := first | omega | decide) only [go_sem, f0, f1, qo1, qo2, qo3, qo4, qo5, act_call, List.map, eq_self, decide_true, Bool.not_false, Bool.not_true, rep_bsl, Int.reduceToNat, List.length_map, List.nil_append]
      apply mwp_call_r rfl rfl rfl
      · intro Q hQ
        simp (disch := first | omega | decide) only [go_sem, f0, f1, qo1, qo2, qo3, qo4, qo5, peekL, reifyL_nil, reifyL_cons, reify_v, eq_self, decide_true, Bool.not_false, Bool.not_true, rep_bsl, Int.reduceToNat, List.length_map, List.nil_append]
        first | exact hQ | (((first | rw [peek_own (by simp (disch := first | omega | decide) only [go_sem, f0, f1, qo1, qo2, qo3, qo4, qo5, peekL, reifyL_nil, reifyL_cons, reify_v, eq_self, decide_true, Bool.not_false, Bool.not_true, rep_bsl, Int.reduceToNat, List.length_map, List.nil_append]; rfl)] | rw [mwp_reify_own (by simp (disch := first | omega | decide) only [go_sem, f0, f1, qo1, qo2, qo3, qo4, qo5, peekL, reifyL_nil, reifyL_cons, reify_v, eq_self, decide_true, Bool.not_false, Bool.not_true, rep_bsl, Int.reduceToNat, List.length_map, List.nil_append]; rfl)] | rw [peek_frz (by simp (disch := first | omega | decide) only [go_sem, f0, f1, qo1, qo2, qo3, qo4, qo5, peekL, reifyL_nil, reifyL_cons, reify_v, eq_self, decide_true, Bool.not_false, Bool.not_true, rep_bsl, Int.reduceToNat, List.length_map, List.nil_append]; rfl)] | rw [reify_frz (by simp (disch := first | omega | decide) only [go_sem, f0, f1, qo1, qo2, qo3, qo4, qo5, peekL, reifyL_nil, reifyL_cons, reify_v, eq_self, decide_true, Bool.not_false, Bool.not_true, rep_bsl, Int.reduceToNat, List.length_map, List.nil_append]; rfl)]); (try rw [sub_full (by first | (simp only [List.length_map, List.length_replicate]; done) | simp)])); exact hQ) | (((first | rw [peek_own (by simp (disch := first | omega | decide) only [go_sem, f0, f1, qo1, qo2, qo3, qo4, qo5, peekL, reifyL_nil, reifyL_cons, reify_v, eq_self, decide_true, Bool.not_false, Bool.not_true, rep_bsl, Int.reduceToNat, List.length_map, List.nil_append]; rfl)] | rw [mwp_reify_own (by simp (disch := first | omega | decide) only [go_sem, f0, f1, qo1, qo2, qo3, qo4, qo5, peekL, reifyL_nil, reifyL_cons, reify_v, eq_self, decide_true, Bool.not_false, Bool.not_true, rep_bsl, Int.reduceToNat, List.length_map, List.nil_append]; rfl)] | rw [peek_frz (by simp (disch := first | omega | decide) only [go_sem, f0, f1, qo1, qo2, qo3, qo4, qo5, peekL, reifyL_nil, reifyL_cons, reify_v, eq_self, decide_true, Bool.not_false, Bool.not_true, rep_bsl, Int.reduceToNat, List.length_map, List.nil_append]; rfl)] | rw [reify_frz (by simp (disch := first | omega | decide) only [go_sem, f0, f1, qo1, qo2, qo3, qo4, qo5, peekL, reifyL_nil, reifyL_cons, reify_v, eq_self, decide_true, Bool.not_false, Bool.not_true, rep_bsl, Int.reduceToNat, List.length_map, List.nil_append]; rfl)]); (try rw [sub_full (by first | (simp only [List.length_map, List.length_replicate]; done) | simp)])); (try simp (disch := first | omega | decide) only [go_sem, f0, f1, qo1, qo2, qo3, qo4, qo5, peekL, reifyL_nil, reifyL_cons, reify_v, eq_self, decide_true, Bool.not_false, Bool.not_true, rep_bsl, Int.reduceToNat, List.length_map, List.nil_append]); ((first | rw [peek_own (by simp (disch := first | omega | decide) only [go_sem, f0, f1, qo1, qo2, qo3, qo4, qo5, peekL, reifyL_nil, reifyL_cons, reify_v, eq_self, decide_true, Bool.not_false, Bool.not_true, rep_bsl, Int.reduceToNat, List.length_map, List.nil_append]; rfl)] | rw [mwp_reify_own (by simp (disch := first | omega | decide) only [go_sem, f0, f1, qo1, qo2, qo3, qo4, qo5, peekL, reifyL_nil, reifyL_cons, reify_v, eq_self, decide_true, Bool.not_false, Bool.not_true, rep_bsl, Int.reduceToNat, List.length_map, List.nil_append]; rfl)] | rw [peek_frz (by simp (disch := first | omega | decide) only [go_sem, f0, f1, qo1, qo2, qo3, qo4, qo5, peekL, reifyL_nil, reifyL_cons, reify_v, eq_self, decide_true, Bool.not_false, Bool.not_true, rep_bsl, Int.reduceToNat, List.length_map, List.nil_append]; rfl)] | rw [reify_frz (by simp (disch := first | omega | decide) only [go_sem, f0, f1, qo1, qo2, qo3, qo4, qo5, peekL, reifyL_nil, reifyL_cons, reify_v, eq_self, decide_true, Bool.not_false, Bool.not_true, rep_bsl, Int.reduceToNat, List.length_map, List.nil_append]; rfl)]); (try rw [sub_full (by first | (simp only [List.length_map, List.length_replicate]; done) | simp)])); exact hQ) | (((first | rw [peek_own (by simp (disch := first | omega | decide) only [go_sem, f0, f1, qo1, qo2, qo3, qo4, qo5, peekL, reifyL_nil, reifyL_cons, reify_v, eq_self, decide_true, Bool.not_false, Bool.not_true, rep_bsl, Int.reduceToNat, List.length_map, List.nil_append]; rfl)] | rw [mwp_reify_own (by simp (disch := first | omega | decide) only [go_sem, f0, f1, qo1, qo2, qo3, qo4, qo5, peekL, reifyL_nil, reifyL_cons, reify_v, eq_self, decide_true, Bool.not_false, Bool.not_true, rep_bsl, Int.reduceToNat, List.length_map, List.nil_append]; rfl)] | rw [peek_frz (by simp (disch := first | omega | decide) only [go_sem, f0, f1, qo1, qo2, qo3, qo4, qo5, peekL, reifyL_nil, reifyL_cons, reify_v, eq_self, decide_true, Bool.not_false, Bool.not_true, rep_bsl, Int.reduceToNat, List.length_map, List.nil_append]; rfl)] | rw [reify_frz (by simp (disch := first | omega | decide) only [go_sem, f0, f1, qo1, qo2, qo3, qo4, qo5, peekL, reifyL_nil, reifyL_cons, reify_v, eq_self, decide_true, Bool.not_false, Bool.not_true, rep_bsl, Int.reduceToNat, List.length_map, List.nil_append]; rfl)]); (try rw [sub_full (by first | (simp only [List.length_map, List.length_replicate]; done) | simp)])); simp (disch := first | omega | decide) only [go_sem, f0, f1, qo1, qo2, qo3, qo4, qo5, peekL, reifyL_nil, reifyL_cons, reify_v, eq_self, decide_true, Bool.not_false, Bool.not_true, rep_bsl, Int.reduceToNat, List.length_map, List.nil_append]; exact hQ)
      · exact good_Text nil l false (List.replicate (65536 + mo).toNat 0#8) (by omega) hz (by rw [List.length_replicate]; omega)
      · simp [-List.map_take, -List.map_drop, -List.map_append, -List.map_replicate, -List.reduceReplicate, noPtrL, noPtr, noPtrL_bsl, noPtrL_map, sub]
      · rw [resOf_own2 (by first | (simp (disch := decide) only [mset_ne, hr]; done) | simp [Mem.set, hr])]
        exact hK _
    iterate 3 (apply aops_step (by decide) rfl; · (intro K hK; simp (disch := first | omega | decide) only [go_sem, f0, f1, qo1, qo2, qo3, qo4, qo5, eq_self, decide_true, Bool.not_false, Bool.not_true, rep_bsl, Int.reduceToNat, List.length_map, List.nil_append]; exact hK _))
    apply aops_step (by decide) rfl
    · intro K hK
      simp (disch := first | omega | decide) only [go_sem, f0, f1, qo1, qo2, qo3, qo4, qo5, eq_self, decide_true, Bool.not_false, Bool.not_true, rep_bsl, Int.reduceToNat, List.length_map, List.nil_append]
      rw [asg_tmp (by simp (disch := first | omega | decide) only [go_sem, f0, f1, qo1, qo2, qo3, qo4, qo5, eq_self, decide_true, Bool.not_false, Bool.not_true, rep_bsl, Int.reduceToNat, List.length_map, List.nil_append]; rfl)]
      exact hK _
    iterate 1 (apply aops_step (by decide) rfl; · (intro K hK; simp (disch := first | omega | decide) only [go_sem, f0, f1, qo1, qo2, qo3, qo4, qo5, eq_self, decide_true, Bool.not_false, Bool.not_true, rep_bsl, Int.reduceToNat, List.length_map, List.nil_append]; exact hK _))
    refine aops_nil ?_
    refine AW.seq ?_
    refine AW.region (cfg := cfgP) ?_
    apply aops_step (by decide) rfl
    · intro K hK
      rw [act_make el22 ti5]
      simp (disch := first | omega | decide) only [go_sem, f0, f1, qo1, qo2, qo3, qo4, qo5, eq_self, decide_true, Bool.not_false, Bool.not_true, rep_bsl, Int.reduceToNat, List.length_map, List.nil_append]
      rw [mwp_make (by first | (simp [roomB]; done) | (simp [roomB]; omega))]
      exact hK _
    apply aops_step (by decide) rfl
    · intro K hK
      simp (disch := first | omega | decide) only [go_sem, f0, f1, qo1, qo2, qo3, qo4, qo5, act_call, List.map, eq_self, decide_true, Bool.not_false, Bool.not_true, rep_bsl, Int.reduceToNat, List.length_map, List.nil_append]
      apply mwp_call_r rfl rfl rfl
      · intro Q hQ
        simp (disch := first | omega | decide) only [go_sem, f0, f1, qo1, qo2, qo3, qo4, qo5, peekL, reifyL_nil, reifyL_cons, reify_v, eq_self, decide_true, Bool.not_false, Bool.not_true, rep_bsl, Int.reduceToNat, List.length_map, List.nil_append]
        first | exact hQ | (((first | rw [peek_own (by simp (disch := first | omega | decide) only [go_sem, f0, f1, qo1, qo2, qo3, qo4, qo5, peekL, reifyL_nil, reifyL_cons, reify_v, eq_self, decide_true, Bool.not_false, Bool.not_true, rep_bsl, Int.reduceToNat, List.length_map, List.nil_append]; rfl)] | rw [mwp_reify_own (by simp (disch := first | omega | decide) only [go_sem, f0, f1, qo1, qo2, qo3, qo4, qo5, peekL, reifyL_nil, reifyL_cons, reify_v, eq_self, decide_true, Bool.not_false, Bool.not_true, rep_bsl, Int.reduceToNat, List.length_map, List.nil_append]; rfl)] | rw [peek_frz (by simp (disch := first | omega | decide) only [go_sem, f0, f1, qo1, qo2, qo3, qo4, qo5, peekL, reifyL_nil, reifyL_cons, reify_v, eq_self, decide_true, Bool.not_false, Bool.not_true, rep_bsl, Int.reduceToNat, List.length_map, List.nil_append]; rfl)] | rw [reify_frz (by simp (disch := first | omega | decide) only [go_sem, f0, f1, qo1, qo2, qo3, qo4, qo5, peekL, reifyL_nil, reifyL_cons, reify_v, eq_self, decide_true, Bool.not_false, Bool.not_true, rep_bsl, Int.reduceToNat, List.length_map, List.nil_append]; rfl)]); (try rw [sub_full (by first | (simp only [List.length_map, List.length_replicate]; done) | simp)])); exact hQ) | (((first | rw [peek_own (by simp (disch := first | omega | decide) only [go_sem, f0, f1, qo1, qo2, qo3, qo4, qo5, peekL, reifyL_nil, reifyL_cons, reify_v, eq_self, decide_true, Bool.not_false, Bool.not_true, rep_bsl, Int.reduceToNat, List.length_map, List.nil_append]; rfl)] | rw [mwp_reify_own (by simp (disch := first | omega | decide) only [go_sem, f0, f1, qo1, qo2, qo3, qo4, qo5, peekL, reifyL_nil, reifyL_cons, reify_v, eq_self, decide_true, Bool.not_false, Bool.not_true, rep_bsl, Int.reduceToNat, List.length_map, List.nil_append]; rfl)] | rw [peek_frz (by simp (disch := first | omega | decide) only [go_sem, f0, f1, qo1, qo2, qo3, qo4, qo5, peekL, reifyL_nil, reifyL_cons, reify_v, eq_self, decide_true, Bool.not_false, Bool.not_true, rep_bsl, Int.reduceToNat, List.length_map, List.nil_append]; rfl)] | rw [reify_frz (by simp (disch := first | omega | decide) only [go_sem, f0, f1, qo1, qo2, qo3, qo4, qo5, peekL, reifyL_nil, reifyL_cons, reify_v, eq_self, decide_true, Bool.not_false, Bool.not_true, rep_bsl, Int.reduceToNat, List.length_map, List.nil_append]; rfl)]); (try rw [sub_full (by first | (simp only [List.length_map, List.length_replicate]; done) | simp)])); (try simp (disch := first | omega | decide) only [go_sem, f0, f1, qo1, qo2, qo3, qo4, qo5, peekL, reifyL_nil, reifyL_cons, reify_v, eq_self, decide_true, Bool.not_false, Bool.not_true, rep_bsl, Int.reduceToNat, List.length_map, List.nil_append]); ((first | rw [peek_own (by simp (disch := first | omega | decide) only [go_sem, f0, f1, qo1, qo2, qo3, qo4, qo5, peekL, reifyL_nil, reifyL_cons, reify_v, eq_self, decide_true, Bool.not_false, Bool.not_true, rep_bsl, Int.reduceToNat, List.length_map, List.nil_append]; rfl)] | rw [mwp_reify_own (by simp (disch := first | omega | decide) only [go_sem, f0, f1, qo1, qo2, qo3, qo4, qo5, peekL, reifyL_nil, reifyL_cons, reify_v, eq_self, decide_true, Bool.not_false, Bool.not_true, rep_bsl, Int.reduceToNat, List.length_map, List.nil_append]; rfl)] | rw [peek_frz (by simp (disch := first | omega | decide) only [go_sem, f0, f1, qo1, qo2, qo3, qo4, qo5, peekL, reifyL_nil, reifyL_cons, reify_v, eq_self, decide_true, Bool.not_false, Bool.not_true, rep_bsl, Int.reduceToNat, List.length_map, List.nil_append]; rfl)] | rw [reify_frz (by simp (disch := first | omega | decide) only [go_sem, f0, f1, qo1, qo2, qo3, qo4, qo5, peekL, reifyL_nil, reifyL_cons, reify_v, eq_self, decide_true, Bool.not_false, Bool.not_true, rep_bsl, Int.reduceToNat, List.length_map, List.nil_append]; rfl)]); (try rw [sub_full (by first | (simp only [List.length_map, List.length_replicate]; done) | simp)])); exact hQ) | (((first | rw [peek_own (by simp (disch := first | omega | decide) only [go_sem, f0, f1, qo1, qo2, qo3, qo4, qo5, peekL, reifyL_nil, reifyL_cons, reify_v, eq_self, decide_true, Bool.not_false, Bool.not_true, rep_bsl, Int.reduceToNat, List.length_map, List.nil_append]; rfl)] | rw [mwp_reify_own (by simp (disch := first | omega | decide) only [go_sem, f0, f1, qo1, qo2, qo3, qo4, qo5, peekL, reifyL_nil, reifyL_cons, reify_v, eq_self, decide_true, Bool.not_false, Bool.not_true, rep_bsl, Int.reduceToNat, List.length_map, List.nil_append]; rfl)] | rw [peek_frz (by simp (disch := first | omega | decide) only [go_sem, f0, f1, qo1, qo2, qo3, qo4, qo5, peekL, reifyL_nil, reifyL_cons, reify_v, eq_self, decide_true, Bool.not_false, Bool.not_true, rep_bsl, Int.reduceToNat, List.length_map, List.nil_append]; rfl)] | rw [reify_frz (by simp (disch := first | omega | decide) only [go_sem, f0, f1, qo1, qo2, qo3, qo4, qo5, peekL, reifyL_nil, reifyL_cons, reify_v, eq_self, decide_true, Bool.not_false, Bool.not_true, rep_bsl, Int.reduceToNat, List.length_map, List.nil_append]; rfl)]); (try rw [sub_full (by first | (simp only [List.length_map, List.length_replicate]; done) | simp)])); simp (disch := first | omega | decide) only [go_sem, f0, f1, qo1, qo2, qo3, qo4, qo5, peekL, reifyL_nil, reifyL_cons, reify_v, eq_self, decide_true, Bool.not_false, Bool.not_true, rep_bsl, Int.reduceToNat, List.length_map, List.nil_append]; exact hQ)
      · exact (good_Text true [] false (List.replicate 65535 0#8) (by simp) (by simp) (by rw [List.length_replicate, List.length_nil]; omega)).nil0
      · simp [-List.map_take, -List.map_drop, -List.map_append, -List.map_replicate, -List.reduceReplicate, noPtrL, noPtr, noPtrL_bsl, noPtrL_map, sub]
      · rw [resOf_own2 (by first | (simp (disch := decide) only [mset_ne, hr]; done) | simp [Mem.set, hr])]
        exact hK _
    iterate 3 (apply aops_step (by decide) rfl; · (intro K hK; simp (disch := first | omega | decide) only [go_sem, f0, f1, qo1, qo2, qo3, qo4, qo5, eq_self, decide_true, Bool.not_false, Bool.not_true, rep_bsl, Int.reduceToNat, List.length_map, List.nil_append]; exact hK _))
    apply aops_step (by decide) rfl
    · intro K hK
      simp (disch := first | omega | decide) only [go_sem, f0, f1, qo1, qo2, qo3, qo4, qo5, eq_self, decide_true, Bool.not_false, Bool.not_true, rep_bsl, Int.reduceToNat, List.length_map, List.nil_append]
      rw [asg_tmp (by simp (disch := first | omega | decide) only [go_sem, f0, f1, qo1, qo2, qo3, qo4, qo5, eq_self, decide_true, Bool.not_false, Bool.not_true, rep_bsl, Int.reduceToNat, List.length_map, List.nil_append]; rfl)]
      exact hK _
    iterate 1 (apply aops_step (by decide) rfl; · (intro K hK; simp (disch := first | omega | decide) only [go_sem, f0, f1, qo1, qo2, qo3, qo4, qo5, eq_self, decide_true, Bool.not_false, Bool.not_true, rep_bsl, Int.reduceToNat, List.length_map, List.nil_append]; exact hK _))
    refine aops_nil ?_
    refine AW.seq ?_
    refine AW.region (cfg := cfgP) ?_
    iterate 1 (apply aops_step (by decide) rfl; · (intro K hK; simp (disch := first | omega | decide) only [go_sem, f0, f1, qo1, qo2, qo3, qo4, qo5, eq_self, decide_true, Bool.not_false, Bool.not_true, rep_bsl, Int.reduceToNat, List.length_map, List.nil_append]; exact hK _))
    refine aops_nil ?_
    refine AW.seq ?_
    refine AW.region (cfg := cfgP) ?_
    iterate 5 (apply aops_step (by decide) rfl; · (intro K hK; simp (disch := first | omega | decide) only [go_sem, f0, f1, qo1, qo2, qo3, qo4, qo5, eq_self, decide_true, Bool.not_false, Bool.not_true, rep_bsl, Int.reduceToNat, List.length_map, List.nil_append]; exact hK _))
    apply aops_step (by decide) rfl
    · intro K hK
      simp (disch := first | omega | decide) only [go_sem, f0, f1, qo1, qo2, qo3, qo4, qo5, act_call, List.map, eq_self, decide_true, Bool.not_false, Bool.not_true, rep_bsl, Int.reduceToNat, List.length_map, List.nil_append]
      apply mwp_call_s rfl rfl rfl
      · intro Q hQ
        simp (disch := first | omega | decide) only [go_sem, f0, f1, qo1, qo2, qo3, qo4, qo5, peekL, reifyL_nil, reifyL_cons, reify_v, eq_self, decide_true, Bool.not_false, Bool.not_true, rep_bsl, Int.reduceToNat, List.length_map, List.nil_append]
        first | exact hQ | (((first | rw [peek_own (by simp (disch := first | omega | decide) only [go_sem, f0, f1, qo1, qo2, qo3, qo4, qo5, peekL, reifyL_nil, reifyL_cons, reify_v, eq_self, decide_true, Bool.not_false, Bool.not_true, rep_bsl, Int.reduceToNat, List.length_map, List.nil_append]; rfl)] | rw [mwp_reify_own (by simp (disch := first | omega | decide) only [go_sem, f0, f1, qo1, qo2, qo3, qo4, qo5, peekL, reifyL_nil, reifyL_cons, reify_v, eq_self, decide_true, Bool.not_false, Bool.not_true, rep_bsl, Int.reduceToNat, List.length_map, List.nil_append]; rfl)] | rw [peek_frz (by simp (disch := first | omega | decide) only [go_sem, f0, f1, qo1, qo2, qo3, qo4, qo5, peekL, reifyL_nil, reifyL_cons, reify_v, eq_self, decide_true, Bool.not_false, Bool.not_true, rep_bsl, Int.reduceToNat, List.length_map, List.nil_append]; rfl)] | rw [reify_frz (by simp (disch := first | omega | decide) only [go_sem, f0, f1, qo1, qo2, qo3, qo4, qo5, peekL, reifyL_nil, reifyL_cons, reify_v, eq_self, decide_true, Bool.not_false, Bool.not_true, rep_bsl, Int.reduceToNat, List.length_map, List.nil_append]; rfl)]); (try rw [sub_full (by first | (simp only [List.length_map, List.length_replicate]; done) | simp)])); exact hQ) | (((first | rw [peek_own (by simp (disch := first | omega | decide) only [go_sem, f0, f1, qo1, qo2, qo3, qo4, qo5, peekL, reifyL_nil, reifyL_cons, reify_v, eq_self, decide_true, Bool.not_false, Bool.not_true, rep_bsl, Int.reduceToNat, List.length_map, List.nil_append]; rfl)] | rw [mwp_reify_own (by simp (disch := first | omega | decide) only [go_sem, f0, f1, qo1, qo2, qo3, qo4, qo5, peekL, reifyL_nil, reifyL_cons, reify_v, eq_self, decide_true, Bool.not_false, Bool.not_true, rep_bsl, Int.reduceToNat, List.length_map, List.nil_append]; rfl)] | rw [peek_frz (by simp (disch := first | omega | decide) only [go_sem, f0, f1, qo1, qo2, qo3, qo4, qo5, peekL, reifyL_nil, reifyL_cons, reify_v, eq_self, decide_true, Bool.not_false, Bool.not_true, rep_bsl, Int.reduceToNat, List.length_map, List.nil_append]; rfl)] | rw [reify_frz (by simp (disch := first | omega | decide) only [go_sem, f0, f1, qo1, qo2, qo3, qo4, qo5, peekL, reifyL_nil, reifyL_cons, reify_v, eq_self, decide_true, Bool.not_false, Bool.not_true, rep_bsl, Int.reduceToNat, List.length_map, List.nil_append]; rfl)]); (try rw [sub_full (by first | (simp only [List.length_map, List.length_replicate]; done) | simp)])); (try simp (disch := first | omega | decide) only [go_sem, f0, f1, qo1, qo2, qo3, qo4, qo5, peekL, reifyL_nil, reifyL_cons, reify_v, eq_self, decide_true, Bool.not_false, Bool.not_true, rep_bsl, Int.reduceToNat, List.length_map, List.nil_append]); ((first | rw [peek_own (by simp (disch := first | omega | decide) only [go_sem, f0, f1, qo1, qo2, qo3, qo4, qo5, peekL, reifyL_nil, reifyL_cons, reify_v, eq_self, decide_true, Bool.not_false, Bool.not_true, rep_bsl, Int.reduceToNat, List.length_map, List.nil_append]; rfl)] | rw [mwp_reify_own (by simp (disch := first | omega | decide) only [go_sem, f0, f1, qo1, qo2, qo3, qo4, qo5, peekL, reifyL_nil, reifyL_cons, reify_v, eq_self, decide_true, Bool.not_false, Bool.not_true, rep_bsl, Int.reduceToNat, List.length_map, List.nil_append]; rfl)] | rw [peek_frz (by simp (disch := first | omega | decide) only [go_sem, f0, f1, qo1, qo2, qo3, qo4, qo5, peekL, reifyL_nil, reifyL_cons, reify_v, eq_self, decide_true, Bool.not_false, Bool.not_true, rep_bsl, Int.reduceToNat, List.length_map, List.nil_append]; rfl)] | rw [reify_frz (by simp (disch := first | omega | decide) only [go_sem, f0, f1, qo1, qo2, qo3, qo4, qo5, peekL, reifyL_nil, reifyL_cons, reify_v, eq_self, decide_true, Bool.not_false, Bool.not_true, rep_bsl, Int.reduceToNat, List.length_map, List.nil_append]; rfl)]); (try rw [sub_full (by first | (simp only [List.length_map, List.length_replicate]; done) | simp)])); exact hQ) | (((first | rw [peek_own (by simp (disch := first | omega | decide) only [go_sem, f0, f1, qo1, qo2, qo3, qo4, qo5, peekL, reifyL_nil, reifyL_cons, reify_v, eq_self, decide_true, Bool.not_false, Bool.not_true, rep_bsl, Int.reduceToNat, List.length_map, List.nil_append]; rfl)] | rw [mwp_reify_own (by simp (disch := first | omega | decide) only [go_sem, f0, f1, qo1, qo2, qo3, qo4, qo5, peekL, reifyL_nil, reifyL_cons, reify_v, eq_self, decide_true, Bool.not_false, Bool.not_true, rep_bsl, Int.reduceToNat, List.length_map, List.nil_append]; rfl)] | rw [peek_frz (by simp (disch := first | omega | decide) only [go_sem, f0, f1, qo1, qo2, qo3, qo4, qo5, peekL, reifyL_nil, reifyL_cons, reify_v, eq_self, decide_true, Bool.not_false, Bool.not_true, rep_bsl, Int.reduceToNat, List.length_map, List.nil_append]; rfl)] | rw [reify_frz (by simp (disch := first | omega | decide) only [go_sem, f0, f1, qo1, qo2, qo3, qo4, qo5, peekL, reifyL_nil, reifyL_cons, reify_v, eq_self, decide_true, Bool.not_false, Bool.not_true, rep_bsl, Int.reduceToNat, List.length_map, List.nil_append]; rfl)]); (try rw [sub_full (by first | (simp only [List.length_map, List.length_replicate]; done) | simp)])); simp (disch := first | omega | decide) only [go_sem, f0, f1, qo1, qo2, qo3, qo4, qo5, peekL, reifyL_nil, reifyL_cons, reify_v, eq_self, decide_true, Bool.not_false, Bool.not_true, rep_bsl, Int.reduceToNat, List.length_map, List.nil_append]; exact hQ)
      · exact good_Same _ _ _ _ (by omega) (by omega)
      · simp [-List.map_take, -List.map_drop, -List.map_append, -List.map_replicate, -List.reduceReplicate, noPtrL, noPtr, noPtrL_bsl, noPtrL_map, sub]
      · rfl
      · exact hK _
    iterate 6 (apply aops_step (by decide) rfl; · (intro K hK; simp (disch := first | omega | decide) only [go_sem, f0, f1, qo1, qo2, qo3, qo4, qo5, eq_self, decide_true, Bool.not_false, Bool.not_true, rep_bsl, Int.reduceToNat, List.length_map, List.nil_append]; exact hK _))
    apply aops_step (by decide) rfl
    · intro K hK
      simp (disch := first | omega | decide) only [go_sem, f0, f1, qo1, qo2, qo3, qo4, qo5, List.map, List.length_map, aops_len u22, eq_self, decide_true, Bool.not_false, Bool.not_true, rep_bsl, Int.reduceToNat, List.nil_append]
      first | (exact hK _) | ((first | rw [mwp_len_own u22 (by simp (disch := first | omega | decide) only [go_sem, f0, f1, qo1, qo2, qo3, qo4, qo5, List.map, eq_self, decide_true, Bool.not_false, Bool.not_true, rep_bsl, Int.reduceToNat, List.length_map, List.nil_append]; rfl)] | rw [mwp_len_frz u22 (by simp (disch := first | omega | decide) only [go_sem, f0, f1, qo1, qo2, qo3, qo4, qo5, List.map, eq_self, decide_true, Bool.not_false, Bool.not_true, rep_bsl, Int.reduceToNat, List.length_map, List.nil_append]; rfl)]); (try rw [sub_full (by first | (simp only [List.length_map, List.length_replicate]; done) | simp)]); (try simp only [List.length_map]); exact hK _)
    iterate 4 (apply aops_step (by decide) rfl; · (intro K hK; simp (disch := first | omega | decide) only [go_sem, f0, f1, qo1, qo2, qo3, qo4, qo5, eq_self, decide_true, Bool.not_false, Bool.not_true, rep_bsl, Int.reduceToNat, List.length_map, List.nil_append]; exact hK _))
    apply aops_step (by decide) rfl
    · intro K hK
      simp (disch := first | omega | decide) only [go_sem, f0, f1, qo1, qo2, qo3, qo4, qo5, act_call, List.map, eq_self, decide_true, Bool.not_false, Bool.not_true, rep_bsl, Int.reduceToNat, List.length_map, List.nil_append]
      apply mwp_call_r rfl rfl rfl
      · intro Q hQ
        simp (disch := first | omega | decide) only [go_sem, f0, f1, qo1, qo2, qo3, qo4, qo5, peekL, reifyL_nil, reifyL_cons, reify_v, eq_self, decide_true, Bool.not_false, Bool.not_true, rep_bsl, Int.reduceToNat, List.length_map, List.nil_append]
        first | exact hQ | (((first | rw [peek_own (by simp (disch := first | omega | decide) only [go_sem, f0, f1, qo1, qo2, qo3, qo4, qo5, peekL, reifyL_nil, reifyL_cons, reify_v, eq_self, decide_true, Bool.not_false, Bool.not_true, rep_bsl, Int.reduceToNat, List.length_map, List.nil_append]; rfl)] | rw [mwp_reify_own (by simp (disch := first | omega | decide) only [go_sem, f0, f1, qo1, qo2, qo3, qo4, qo5, peekL, reifyL_nil, reifyL_cons, reify_v, eq_self, decide_true, Bool.not_false, Bool.not_true, rep_bsl, Int.reduceToNat, List.length_map, List.nil_append]; rfl)] | rw [peek_frz (by simp (disch := first | omega | decide) only [go_sem, f0, f1, qo1, qo2, qo3, qo4, qo5, peekL, reifyL_nil, reifyL_cons, reify_v, eq_self, decide_true, Bool.not_false, Bool.not_true, rep_bsl, Int.reduceToNat, List.length_map, List.nil_append]; rfl)] | rw [reify_frz (by simp (disch := first | omega | decide) only [go_sem, f0, f1, qo1, qo2, qo3, qo4, qo5, peekL, reifyL_nil, reifyL_cons, reify_v, eq_self, decide_true, Bool.not_false, Bool.not_true, rep_bsl, Int.reduceToNat, List.length_map, List.nil_append]; rfl)]); (try rw [sub_full (by first | (simp only [List.length_map, List.length_replicate]; done) | simp)])); exact hQ) | (((first | rw [peek_own (by simp (disch := first | omega | decide) only [go_sem, f0, f1, qo1, qo2, qo3, qo4, qo5, peekL, reifyL_nil, reifyL_cons, reify_v, eq_self, decide_true, Bool.not_false, Bool.not_true, rep_bsl, Int.reduceToNat, List.length_map, List.nil_append]; rfl)] | rw [mwp_reify_own (by simp (disch := first | omega | decide) only [go_sem, f0, f1, qo1, qo2, qo3, qo4, qo5, peekL, reifyL_nil, reifyL_cons, reify_v, eq_self, decide_true, Bool.not_false, Bool.not_true, rep_bsl, Int.reduceToNat, List.length_map, List.nil_append]; rfl)] | rw [peek_frz (by simp (disch := first | omega | decide) only [go_sem, f0, f1, qo1, qo2, qo3, qo4, qo5, peekL, reifyL_nil, reifyL_cons, reify_v, eq_self, decide_true, Bool.not_false, Bool.not_true, rep_bsl, Int.reduceToNat, List.length_map, List.nil_append]; rfl)] | rw [reify_frz (by simp (disch := first | omega | decide) only [go_sem, f0, f1, qo1, qo2, qo3, qo4, qo5, peekL, reifyL_nil, reifyL_cons, reify_v, eq_self, decide_true, Bool.not_false, Bool.not_true, rep_bsl, Int.reduceToNat, List.length_map, List.nil_append]; rfl)]); (try rw [sub_full (by first | (simp only [List.length_map, List.length_replicate]; done) | simp)])); (try simp (disch := first | omega | decide) only [go_sem, f0, f1, qo1, qo2, qo3, qo4, qo5, peekL, reifyL_nil, reifyL_cons, reify_v, eq_self, decide_true, Bool.not_false, Bool.not_true, rep_bsl, Int.reduceToNat, List.length_map, List.nil_append]); ((first | rw [peek_own (by simp (disch := first | omega | decide) only [go_sem, f0, f1, qo1, qo2, qo3, qo4, qo5, peekL, reifyL_nil, reifyL_cons, reify_v, eq_self, decide_true, Bool.not_false, Bool.not_true, rep_bsl, Int.reduceToNat, List.length_map, List.nil_append]; rfl)] | rw [mwp_reify_own (by simp (disch := first | omega | decide) only [go_sem, f0, f1, qo1, qo2, qo3, qo4, qo5, peekL, reifyL_nil, reifyL_cons, reify_v, eq_self, decide_true, Bool.not_false, Bool.not_true, rep_bsl, Int.reduceToNat, List.length_map, List.nil_append]; rfl)] | rw [peek_frz (by simp (disch := first | omega | decide) only [go_sem, f0, f1, qo1, qo2, qo3, qo4, qo5, peekL, reifyL_nil, reifyL_cons, reify_v, eq_self, decide_true, Bool.not_false, Bool.not_true, rep_bsl, Int.reduceToNat, List.length_map, List.nil_append]; rfl)] | rw [reify_frz (by simp (disch := first | omega | decide) only [go_sem, f0, f1, qo1, qo2, qo3, qo4, qo5, peekL, reifyL_nil, reifyL_cons, reify_v, eq_self, decide_true, Bool.not_false, Bool.not_true, rep_bsl, Int.reduceToNat, List.length_map, List.nil_append]; rfl)]); (try rw [sub_full (by first | (simp only [List.length_map, List.length_replicate]; done) | simp)])); exact hQ) | (((first | rw [peek_own (by simp (disch := first | omega | decide) only [go_sem, f0, f1, qo1, qo2, qo3, qo4, qo5, peekL, reifyL_nil, reifyL_cons, reify_v, eq_self, decide_true, Bool.not_false, Bool.not_true, rep_bsl, Int.reduceToNat, List.length_map, List.nil_append]; rfl)] | rw [mwp_reify_own (by simp (disch := first | omega | decide) only [go_sem, f0, f1, qo1, qo2, qo3, qo4, qo5, peekL, reifyL_nil, reifyL_cons, reify_v, eq_self, decide_true, Bool.not_false, Bool.not_true, rep_bsl, Int.reduceToNat, List.length_map, List.nil_append]; rfl)] | rw [peek_frz (by simp (disch := first | omega | decide) only [go_sem, f0, f1, qo1, qo2, qo3, qo4, qo5, peekL, reifyL_nil, reifyL_cons, reify_v, eq_self, decide_true, Bool.not_false, Bool.not_true, rep_bsl, Int.reduceToNat, List.length_map, List.nil_append]; rfl)] | rw [reify_frz (by simp (disch := first | omega | decide) only [go_sem, f0, f1, qo1, qo2, qo3, qo4, qo5, peekL, reifyL_nil, reifyL_cons, reify_v, eq_self, decide_true, Bool.not_false, Bool.not_true, rep_bsl, Int.reduceToNat, List.length_map, List.nil_append]; rfl)]); (try rw [sub_full (by first | (simp only [List.length_map, List.length_replicate]; done) | simp)])); simp (disch := first | omega | decide) only [go_sem, f0, f1, qo1, qo2, qo3, qo4, qo5, peekL, reifyL_nil, reifyL_cons, reify_v, eq_self, decide_true, Bool.not_false, Bool.not_true, rep_bsl, Int.reduceToNat, List.length_map, List.nil_append]; exact hQ)
      · exact good_NumN _
      · simp [-List.map_take, -List.map_drop, -List.map_append, -List.map_replicate, -List.reduceReplicate, noPtrL, noPtr, noPtrL_bsl, noPtrL_map, sub]
      · simp (disch := first | omega | decide) only [go_sem, f0, f1, qo1, qo2, qo3, qo4, qo5, eq_self, decide_true, Bool.not_false, Bool.not_true, rep_bsl, Int.reduceToNat, List.length_map, List.nil_append]
        exact hK _
    iterate 4 (apply aops_step (by decide) rfl; · (intro K hK; simp (disch := first | omega | decide) only [go_sem, f0, f1, qo1, qo2, qo3, qo4, qo5, eq_self, decide_true, Bool.not_false, Bool.not_true, rep_bsl, Int.reduceToNat, List.length_map, List.nil_append]; exact hK _))
    apply aops_step (by decide) rfl
    · intro K hK
      simp (disch := first | omega | decide) only [go_sem, f0, f1, qo1, qo2, qo3, qo4, qo5, act_call, List.map, eq_self, decide_true, Bool.not_false, Bool.not_true, rep_bsl, Int.reduceToNat, List.length_map, List.nil_append]
      apply mwp_call_r rfl rfl rfl
      · intro Q hQ
        simp (disch := first | omega | decide) only [go_sem, f0, f1, qo1, qo2, qo3, qo4, qo5, peekL, reifyL_nil, reifyL_cons, reify_v, eq_self, decide_true, Bool.not_false, Bool.not_true, rep_bsl, Int.reduceToNat, List.length_map, List.nil_append]
        first | exact hQ | (((first | rw [peek_own (by simp (disch := first | omega | decide) only [go_sem, f0, f1, qo1, qo2, qo3, qo4, qo5, peekL, reifyL_nil, reifyL_cons, reify_v, eq_self, decide_true, Bool.not_false, Bool.not_true, rep_bsl, Int.reduceToNat, List.length_map, List.nil_append]; rfl)] | rw [mwp_reify_own (by simp (disch := first | omega | decide) only [go_sem, f0, f1, qo1, qo2, qo3, qo4, qo5, peekL, reifyL_nil, reifyL_cons, reify_v, eq_self, decide_true, Bool.not_false, Bool.not_true, rep_bsl, Int.reduceToNat, List.length_map, List.nil_append]; rfl)] | rw [peek_frz (by simp (disch := first | omega | decide) only [go_sem, f0, f1, qo1, qo2, qo3, qo4, qo5, peekL, reifyL_nil, reifyL_cons, reify_v, eq_self, decide_true, Bool.not_false, Bool.not_true, rep_bsl, Int.reduceToNat, List.length_map, List.nil_append]; rfl)] | rw [reify_frz (by simp (disch := first | omega | decide) only [go_sem, f0, f1, qo1, qo2, qo3, qo4, qo5, peekL, reifyL_nil, reifyL_cons, reify_v, eq_self, decide_true, Bool.not_false, Bool.not_true, rep_bsl, Int.reduceToNat, List.length_map, List.nil_append]; rfl)]); (try rw [sub_full (by first | (simp only [List.length_map, List.length_replicate]; done) | simp)])); exact hQ) | (((first | rw [peek_own (by simp (disch := first | omega | decide) only [go_sem, f0, f1, qo1, qo2, qo3, qo4, qo5, peekL, reifyL_nil, reifyL_cons, reify_v, eq_self, decide_true, Bool.not_false, Bool.not_true, rep_bsl, Int.reduceToNat, List.length_map, List.nil_append]; rfl)] | rw [mwp_reify_own (by simp (disch := first | omega | decide) only [go_sem, f0, f1, qo1, qo2, qo3, qo4, qo5, peekL, reifyL_nil, reifyL_cons, reify_v, eq_self, decide_true, Bool.not_false, Bool.not_true, rep_bsl, Int.reduceToNat, List.length_map, List.nil_append]; rfl)] | rw [peek_frz (by simp (disch := first | omega | decide) only [go_sem, f0, f1, qo1, qo2, qo3, qo4, qo5, peekL, reifyL_nil, reifyL_cons, reify_v, eq_self, decide_true, Bool.not_false, Bool.not_true, rep_bsl, Int.reduceToNat, List.length_map, List.nil_append]; rfl)] | rw [reify_frz (by simp (disch := first | omega | decide) only [go_sem, f0, f1, qo1, qo2, qo3, qo4, qo5, peekL, reifyL_nil, reifyL_cons, reify_v, eq_self, decide_true, Bool.not_false, Bool.not_true, rep_bsl, Int.reduceToNat, List.length_map, List.nil_append]; rfl)]); (try rw [sub_full (by first | (simp only [List.length_map, List.length_replicate]; done) | simp)])); (try simp (disch := first | omega | decide) only [go_sem, f0, f1, qo1, qo2, qo3, qo4, qo5, peekL, reifyL_nil, reifyL_cons, reify_v, eq_self, decide_true, Bool.not_false, Bool.not_true, rep_bsl, Int.reduceToNat, List.length_map, List.nil_append]); ((first | rw [peek_own (by simp (disch := first | omega | decide) only [go_sem, f0, f1, qo1, qo2, qo3, qo4, qo5, peekL, reifyL_nil, reifyL_cons, reify_v, eq_self, decide_true, Bool.not_false, Bool.not_true, rep_bsl, Int.reduceToNat, List.length_map, List.nil_append]; rfl)] | rw [mwp_reify_own (by simp (disch := first | omega | decide) only [go_sem, f0, f1, qo1, qo2, qo3, qo4, qo5, peekL, reifyL_nil, reifyL_cons, reify_v, eq_self, decide_true, Bool.not_false, Bool.not_true, rep_bsl, Int.reduceToNat, List.length_map, List.nil_append]; rfl)] | rw [peek_frz (by simp (disch := first | omega | decide) only [go_sem, f0, f1, qo1, qo2, qo3, qo4, qo5, peekL, reifyL_nil, reifyL_cons, reify_v, eq_self, decide_true, Bool.not_false, Bool.not_true, rep_bsl, Int.reduceToNat, List.length_map, List.nil_append]; rfl)] | rw [reify_frz (by simp (disch := first | omega | decide) only [go_sem, f0, f1, qo1, qo2, qo3, qo4, qo5, peekL, reifyL_nil, reifyL_cons, reify_v, eq_self, decide_true, Bool.not_false, Bool.not_true, rep_bsl, Int.reduceToNat, List.length_map, List.nil_append]; rfl)]); (try rw [sub_full (by first | (simp only [List.length_map, List.length_replicate]; done) | simp)])); exact hQ) | (((first | rw [peek_own (by simp (disch := first | omega | decide) only [go_sem, f0, f1, qo1, qo2, qo3, qo4, qo5, peekL, reifyL_nil, reifyL_cons, reify_v, eq_self, decide_true, Bool.not_false, Bool.not_true, rep_bsl, Int.reduceToNat, List.length_map, List.nil_append]; rfl)] | rw [mwp_reify_own (by simp (disch := first | omega | decide) only [go_sem, f0, f1, qo1, qo2, qo3, qo4, qo5, peekL, reifyL_nil, reifyL_cons, reify_v, eq_self, decide_true, Bool.not_false, Bool.not_true, rep_bsl, Int.reduceToNat, List.length_map, List.nil_append]; rfl)] | rw [peek_frz (by simp (disch := first | omega | decide) only [go_sem, f0, f1, qo1, qo2, qo3, qo4, qo5, peekL, reifyL_nil, reifyL_cons, reify_v, eq_self, decide_true, Bool.not_false, Bool.not_true, rep_bsl, Int.reduceToNat, List.length_map, List.nil_append]; rfl)] | rw [reify_frz (by simp (disch := first | omega | decide) only [go_sem, f0, f1, qo1, qo2, qo3, qo4, qo5, peekL, reifyL_nil, reifyL_cons, reify_v, eq_self, decide_true, Bool.not_false, Bool.not_true, rep_bsl, Int.reduceToNat, List.length_map, List.nil_append]; rfl)]); (try rw [sub_full (by first | (simp only [List.length_map, List.length_replicate]; done) | simp)])); simp (disch := first | omega | decide) only [go_sem, f0, f1, qo1, qo2, qo3, qo4, qo5, peekL, reifyL_nil, reifyL_cons, reify_v, eq_self, decide_true, Bool.not_false, Bool.not_true, rep_bsl, Int.reduceToNat, List.length_map, List.nil_append]; exact hQ)
      · exact good_TextN
      · simp [-List.map_take, -List.map_drop, -List.map_append, -List.map_replicate, -List.reduceReplicate, noPtrL, noPtr, noPtrL_bsl, noPtrL_map, sub]
      · simp (disch := first | omega | decide) only [go_sem, f0, f1, qo1, qo2, qo3, qo4, qo5, eq_self, decide_true, Bool.not_false, Bool.not_true, rep_bsl, Int.reduceToNat, List.length_map, List.nil_append]
        exact hK _
    iterate 5 (apply aops_step (by decide) rfl; · (intro K hK; simp (disch := first | omega | decide) only [go_sem, f0, f1, qo1, qo2, qo3, qo4, qo5, List.map, List.length_map, aops_len u22, eq_self, decide_true, Bool.not_false, Bool.not_true, rep_bsl, Int.reduceToNat, List.nil_append]; exact hK _))
    apply aops_step (by decide) rfl
    · intro K hK
      simp (disch := first | omega | decide) only [go_sem, f0, f1, qo1, qo2, qo3, qo4, qo5, act_call, List.map, eq_self, decide_true, Bool.not_false, Bool.not_true, rep_bsl, Int.reduceToNat, List.length_map, List.nil_append]
      apply mwp_call_r rfl rfl rfl
      · intro Q hQ
        simp (disch := first | omega | decide) only [go_sem, f0, f1, qo1, qo2, qo3, qo4, qo5, peekL, reifyL_nil, reifyL_cons, reify_v, eq_self, decide_true, Bool.not_false, Bool.not_true, rep_bsl, Int.reduceToNat, List.length_map, List.nil_append]
        first | exact hQ | (((first | rw [peek_own (by simp (disch := first | omega | decide) only [go_sem, f0, f1, qo1, qo2, qo3, qo4, qo5, peekL, reifyL_nil, reifyL_cons, reify_v, eq_self, decide_true, Bool.not_false, Bool.not_true, rep_bsl, Int.reduceToNat, List.length_map, List.nil_append]; rfl)] | rw [mwp_reify_own (by simp (disch := first | omega | decide) only [go_sem, f0, f1, qo1, qo2, qo3, qo4, qo5, peekL, reifyL_nil, reifyL_cons, reify_v, eq_self, decide_true, Bool.not_false, Bool.not_true, rep_bsl, Int.reduceToNat, List.length_map, List.nil_append]; rfl)] | rw [peek_frz (by simp (disch := first | omega | decide) only [go_sem, f0, f1, qo1, qo2, qo3, qo4, qo5, peekL, reifyL_nil, reifyL_cons, reify_v, eq_self, decide_true, Bool.not_false, Bool.not_true, rep_bsl, Int.reduceToNat, List.length_map, List.nil_append]; rfl)] | rw [reify_frz (by simp (disch := first | omega | decide) only [go_sem, f0, f1, qo1, qo2, qo3, qo4, qo5, peekL, reifyL_nil, reifyL_cons, reify_v, eq_self, decide_true, Bool.not_false, Bool.not_true, rep_bsl, Int.reduceToNat, List.length_map, List.nil_append]; rfl)]); (try rw [sub_full (by first | (simp only [List.length_map, List.length_replicate]; done) | simp)])); exact hQ) | (((first | rw [peek_own (by simp (disch := first | omega | decide) only [go_sem, f0, f1, qo1, qo2, qo3, qo4, qo5, peekL, reifyL_nil, reifyL_cons, reify_v, eq_self, decide_true, Bool.not_false, Bool.not_true, rep_bsl, Int.reduceToNat, List.length_map, List.nil_append]; rfl)] | rw [mwp_reify_own (by simp (disch := first | omega | decide) only [go_sem, f0, f1, qo1, qo2, qo3, qo4, qo5, peekL, reifyL_nil, reifyL_cons, reify_v, eq_self, decide_true, Bool.not_false, Bool.not_true, rep_bsl, Int.reduceToNat, List.length_map, List.nil_append]; rfl)] | rw [peek_frz (by simp (disch := first | omega | decide) only [go_sem, f0, f1, qo1, qo2, qo3, qo4, qo5, peekL, reifyL_nil, reifyL_cons, reify_v, eq_self, decide_true, Bool.not_false, Bool.not_true, rep_bsl, Int.reduceToNat, List.length_map, List.nil_append]; rfl)] | rw [reify_frz (by simp (disch := first | omega | decide) only [go_sem, f0, f1, qo1, qo2, qo3, qo4, qo5, peekL, reifyL_nil, reifyL_cons, reify_v, eq_self, decide_true, Bool.not_false, Bool.not_true, rep_bsl, Int.reduceToNat, List.length_map, List.nil_append]; rfl)]); (try rw [sub_full (by first | (simp only [List.length_map, List.length_replicate]; done) | simp)])); (try simp (disch := first | omega | decide) only [go_sem, f0, f1, qo1, qo2, qo3, qo4, qo5, peekL, reifyL_nil, reifyL_cons, reify_v, eq_self, decide_true, Bool.not_false, Bool.not_true, rep_bsl, Int.reduceToNat, List.length_map, List.nil_append]); ((first | rw [peek_own (by simp (disch := first | omega | decide) only [go_sem, f0, f1, qo1, qo2, qo3, qo4, qo5, peekL, reifyL_nil, reifyL_cons, reify_v, eq_self, decide_true, Bool.not_false, Bool.not_true, rep_bsl, Int.reduceToNat, List.length_map, List.nil_append]; rfl)] | rw [mwp_reify_own (by simp (disch := first | omega | decide) only [go_sem, f0, f1, qo1, qo2, qo3, qo4, qo5, peekL, reifyL_nil, reifyL_cons, reify_v, eq_self, decide_true, Bool.not_false, Bool.not_true, rep_bsl, Int.reduceToNat, List.length_map, List.nil_append]; rfl)] | rw [peek_frz (by simp (disch := first | omega | decide) only [go_sem, f0, f1, qo1, qo2, qo3, qo4, qo5, peekL, reifyL_nil, reifyL_cons, reify_v, eq_self, decide_true, Bool.not_false, Bool.not_true, rep_bsl, Int.reduceToNat, List.length_map, List.nil_append]; rfl)] | rw [reify_frz (by simp (disch := first | omega | decide) only [go_sem, f0, f1, qo1, qo2, qo3, qo4, qo5, peekL, reifyL_nil, reifyL_cons, reify_v, eq_self, decide_true, Bool.not_false, Bool.not_true, rep_bsl, Int.reduceToNat, List.length_map, List.nil_append]; rfl)]); (try rw [sub_full (by first | (simp only [List.length_map, List.length_replicate]; done) | simp)])); exact hQ) | (((first | rw [peek_own (by simp (disch := first | omega | decide) only [go_sem, f0, f1, qo1, qo2, qo3, qo4, qo5, peekL, reifyL_nil, reifyL_cons, reify_v, eq_self, decide_true, Bool.not_false, Bool.not_true, rep_bsl, Int.reduceToNat, List.length_map, List.nil_append]; rfl)] | rw [mwp_reify_own (by simp (disch := first | omega | decide) only [go_sem, f0, f1, qo1, qo2, qo3, qo4, qo5, peekL, reifyL_nil, reifyL_cons, reify_v, eq_self, decide_true, Bool.not_false, Bool.not_true, rep_bsl, Int.reduceToNat, List.length_map, List.nil_append]; rfl)] | rw [peek_frz (by simp (disch := first | omega | decide) only [go_sem, f0, f1, qo1, qo2, qo3, qo4, qo5, peekL, reifyL_nil, reifyL_cons, reify_v, eq_self, decide_true, Bool.not_false, Bool.not_true, rep_bsl, Int.reduceToNat, List.length_map, List.nil_append]; rfl)] | rw [reify_frz (by simp (disch := first | omega | decide) only [go_sem, f0, f1, qo1, qo2, qo3, qo4, qo5, peekL, reifyL_nil, reifyL_cons, reify_v, eq_self, decide_true, Bool.not_false, Bool.not_true, rep_bsl, Int.reduceToNat, List.length_map, List.nil_append]; rfl)]); (try rw [sub_full (by first | (simp only [List.length_map, List.length_replicate]; done) | simp)])); simp (disch := first | omega | decide) only [go_sem, f0, f1, qo1, qo2, qo3, qo4, qo5, peekL, reifyL_nil, reifyL_cons, reify_v, eq_self, decide_true, Bool.not_false, Bool.not_true, rep_bsl, Int.reduceToNat, List.length_map, List.nil_append]; exact hQ)
      · exact good_LeftN
      · simp [-List.map_take, -List.map_drop, -List.map_append, -List.map_replicate, -List.reduceReplicate, noPtrL, noPtr, noPtrL_bsl, noPtrL_map, sub]
      · simp (disch := first | omega | decide) only [go_sem, f0, f1, qo1, qo2, qo3, qo4, qo5, eq_self, decide_true, Bool.not_false, Bool.not_true, rep_bsl, Int.reduceToNat, List.length_map, List.nil_append]
        exact hK _
    iterate 4 (apply aops_step (by decide) rfl; · (intro K hK; simp (disch := first | omega | decide) only [go_sem, f0, f1, qo1, qo2, qo3, qo4, qo5, eq_self, decide_true, Bool.not_false, Bool.not_true, rep_bsl, Int.reduceToNat, List.length_map, List.nil_append]; exact hK _))
    apply aops_step (by decide) rfl
    · intro K hK
      simp (disch := first | omega | decide) only [go_sem, f0, f1, qo1, qo2, qo3, qo4, qo5, act_call, List.map, eq_self, decide_true, Bool.not_false, Bool.not_true, rep_bsl, Int.reduceToNat, List.length_map, List.nil_append]
      apply mwp_call_r rfl rfl rfl
      · intro Q hQ
        simp (disch := first | omega | decide) only [go_sem, f0, f1, qo1, qo2, qo3, qo4, qo5, peekL, reifyL_nil, reifyL_cons, reify_v, eq_self, decide_true, Bool.not_false, Bool.not_true, rep_bsl, Int.reduceToNat, List.length_map, List.nil_append]
        first | exact hQ | (((first | rw [peek_own (by simp (disch := first | omega | decide) only [go_sem, f0, f1, qo1, qo2, qo3, qo4, qo5, peekL, reifyL_nil, reifyL_cons, reify_v, eq_self, decide_true, Bool.not_false, Bool.not_true, rep_bsl, Int.reduceToNat, List.length_map, List.nil_append]; rfl)] | rw [mwp_reify_own (by simp (disch := first | omega | decide) only [go_sem, f0, f1, qo1, qo2, qo3, qo4, qo5, peekL, reifyL_nil, reifyL_cons, reify_v, eq_self, decide_true, Bool.not_false, Bool.not_true, rep_bsl, Int.reduceToNat, List.length_map, List.nil_append]; rfl)] | rw [peek_frz (by simp (disch := first | omega | decide) only [go_sem, f0, f1, qo1, qo2, qo3, qo4, qo5, peekL, reifyL_nil, reifyL_cons, reify_v, eq_self, decide_true, Bool.not_false, Bool.not_true, rep_bsl, Int.reduceToNat, List.length_map, List.nil_append]; rfl)] | rw [reify_frz (by simp (disch := first | omega | decide) only [go_sem, f0, f1, qo1, qo2, qo3, qo4, qo5, peekL, reifyL_nil, reifyL_cons, reify_v, eq_self, decide_true, Bool.not_false, Bool.not_true, rep_bsl, Int.reduceToNat, List.length_map, List.nil_append]; rfl)]); (try rw [sub_full (by first | (simp only [List.length_map, List.length_replicate]; done) | simp)])); exact hQ) | (((first | rw [peek_own (by simp (disch := first | omega | decide) only [go_sem, f0, f1, qo1, qo2, qo3, qo4, qo5, peekL, reifyL_nil, reifyL_cons, reify_v, eq_self, decide_true, Bool.not_false, Bool.not_true, rep_bsl, Int.reduceToNat, List.length_map, List.nil_append]; rfl)] | rw [mwp_reify_own (by simp (disch := first | omega | decide) only [go_sem, f0, f1, qo1, qo2, qo3, qo4, qo5, peekL, reifyL_nil, reifyL_cons, reify_v, eq_self, decide_true, Bool.not_false, Bool.not_true, rep_bsl, Int.reduceToNat, List.length_map, List.nil_append]; rfl)] | rw [peek_frz (by simp (disch := first | omega | decide) only [go_sem, f0, f1, qo1, qo2, qo3, qo4, qo5, peekL, reifyL_nil, reifyL_cons, reify_v, eq_self, decide_true, Bool.not_false, Bool.not_true, rep_bsl, Int.reduceToNat, List.length_map, List.nil_append]; rfl)] | rw [reify_frz (by simp (disch := first | omega | decide) only [go_sem, f0, f1, qo1, qo2, qo3, qo4, qo5, peekL, reifyL_nil, reifyL_cons, reify_v, eq_self, decide_true, Bool.not_false, Bool.not_true, rep_bsl, Int.reduceToNat, List.length_map, List.nil_append]; rfl)]); (try rw [sub_full (by first | (simp only [List.length_map, List.length_replicate]; done) | simp)])); (try simp (disch := first | omega | decide) only [go_sem, f0, f1, qo1, qo2, qo3, qo4, qo5, peekL, reifyL_nil, reifyL_cons, reify_v, eq_self, decide_true, Bool.not_false, Bool.not_true, rep_bsl, Int.reduceToNat, List.length_map, List.nil_append]); ((first | rw [peek_own (by simp (disch := first | omega | decide) only [go_sem, f0, f1, qo1, qo2, qo3, qo4, qo5, peekL, reifyL_nil, reifyL_cons, reify_v, eq_self, decide_true, Bool.not_false, Bool.not_true, rep_bsl, Int.reduceToNat, List.length_map, List.nil_append]; rfl)] | rw [mwp_reify_own (by simp (disch := first | omega | decide) only [go_sem, f0, f1, qo1, qo2, qo3, qo4, qo5, peekL, reifyL_nil, reifyL_cons, reify_v, eq_self, decide_true, Bool.not_false, Bool.not_true, rep_bsl, Int.reduceToNat, List.length_map, List.nil_append]; rfl)] | rw [peek_frz (by simp (disch := first | omega | decide) only [go_sem, f0, f1, qo1, qo2, qo3, qo4, qo5, peekL, reifyL_nil, reifyL_cons, reify_v, eq_self, decide_true, Bool.not_false, Bool.not_true, rep_bsl, Int.reduceToNat, List.length_map, List.nil_append]; rfl)] | rw [reify_frz (by simp (disch := first | omega | decide) only [go_sem, f0, f1, qo1, qo2, qo3, qo4, qo5, peekL, reifyL_nil, reifyL_cons, reify_v, eq_self, decide_true, Bool.not_false, Bool.not_true, rep_bsl, Int.reduceToNat, List.length_map, List.nil_append]; rfl)]); (try rw [sub_full (by first | (simp only [List.length_map, List.length_replicate]; done) | simp)])); exact hQ) | (((first | rw [peek_own (by simp (disch := first | omega | decide) only [go_sem, f0, f1, qo1, qo2, qo3, qo4, qo5, peekL, reifyL_nil, reifyL_cons, reify_v, eq_self, decide_true, Bool.not_false, Bool.not_true, rep_bsl, Int.reduceToNat, List.length_map, List.nil_append]; rfl)] | rw [mwp_reify_own (by simp (disch := first | omega | decide) only [go_sem, f0, f1, qo1, qo2, qo3, qo4, qo5, peekL, reifyL_nil, reifyL_cons, reify_v, eq_self, decide_true, Bool.not_false, Bool.not_true, rep_bsl, Int.reduceToNat, List.length_map, List.nil_append]; rfl)] | rw [peek_frz (by simp (disch := first | omega | decide) only [go_sem, f0, f1, qo1, qo2, qo3, qo4, qo5, peekL, reifyL_nil, reifyL_cons, reify_v, eq_self, decide_true, Bool.not_false, Bool.not_true, rep_bsl, Int.reduceToNat, List.length_map, List.nil_append]; rfl)] | rw [reify_frz (by simp (disch := first | omega | decide) only [go_sem, f0, f1, qo1, qo2, qo3, qo4, qo5, peekL, reifyL_nil, reifyL_cons, reify_v, eq_self, decide_true, Bool.not_false, Bool.not_true, rep_bsl, Int.reduceToNat, List.length_map, List.nil_append]; rfl)]); (try rw [sub_full (by first | (simp only [List.length_map, List.length_replicate]; done) | simp)])); simp (disch := first | omega | decide) only [go_sem, f0, f1, qo1, qo2, qo3, qo4, qo5, peekL, reifyL_nil, reifyL_cons, reify_v, eq_self, decide_true, Bool.not_false, Bool.not_true, rep_bsl, Int.reduceToNat, List.length_map, List.nil_append]; exact hQ)
      · exact good_WrongN
      · simp [-List.map_take, -List.map_drop, -List.map_append, -List.map_replicate, -List.reduceReplicate, noPtrL, noPtr, noPtrL_bsl, noPtrL_map, sub]
      · simp (disch := first | omega | decide) only [go_sem, f0, f1, qo1, qo2, qo3, qo4, qo5, eq_self, decide_true, Bool.not_false, Bool.not_true, rep_bsl, Int.reduceToNat, List.length_map, List.nil_append]
        exact hK _
    iterate 3 (apply aops_step (by decide) rfl; · (intro K hK; simp (disch := first | omega | decide) only [go_sem, f0, f1, qo1, qo2, qo3, qo4, qo5, eq_self, decide_true, Bool.not_false, Bool.not_true, rep_bsl, Int.reduceToNat, List.length_map, List.nil_append]; exact hK _))
    apply aops_step (by decide) rfl
    · intro K hK
      simp (disch := first | omega | decide) only [go_sem, f0, f1, qo1, qo2, qo3, qo4, qo5, act_call, List.map, eq_self, decide_true, Bool.not_false, Bool.not_true, rep_bsl, Int.reduceToNat, List.length_map, List.nil_append]
      apply mwp_call_r rfl rfl rfl
      · intro Q hQ
        simp (disch := first | omega | decide) only [go_sem, f0, f1, qo1, qo2, qo3, qo4, qo5, peekL, reifyL_nil, reifyL_cons, reify_v, eq_self, decide_true, Bool.not_false, Bool.not_true, rep_bsl, Int.reduceToNat, List.length_map, List.nil_append]
        first | exact hQ | (((first | rw [peek_own (by simp (disch := first | omega | decide) only [go_sem, f0, f1, qo1, qo2, qo3, qo4, qo5, peekL, reifyL_nil, reifyL_cons, reify_v, eq_self, decide_true, Bool.not_false, Bool.not_true, rep_bsl, Int.reduceToNat, List.length_map, List.nil_append]; rfl)] | rw [mwp_reify_own (by simp (disch := first | omega | decide) only [go_sem, f0, f1, qo1, qo2, qo3, qo4, qo5, peekL, reifyL_nil, reifyL_cons, reify_v, eq_self, decide_true, Bool.not_false, Bool.not_true, rep_bsl, Int.reduceToNat, List.length_map, List.nil_append]; rfl)] | rw [peek_frz (by simp (disch := first | omega | decide) only [go_sem, f0, f1, qo1, qo2, qo3, qo4, qo5, peekL, reifyL_nil, reifyL_cons, reify_v, eq_self, decide_true, Bool.not_false, Bool.not_true, rep_bsl, Int.reduceToNat, List.length_map, List.nil_append]; rfl)] | rw [reify_frz (by simp (disch := first | omega | decide) only [go_sem, f0, f1, qo1, qo2, qo3, qo4, qo5, peekL, reifyL_nil, reifyL_cons, reify_v, eq_self, decide_true, Bool.not_false, Bool.not_true, rep_bsl, Int.reduceToNat, List.length_map, List.nil_append]; rfl)]); (try rw [sub_full (by first | (simp only [List.length_map, List.length_replicate]; done) | simp)])); exact hQ) | (((first | rw [peek_own (by simp (disch := first | omega | decide) only [go_sem, f0, f1, qo1, qo2, qo3, qo4, qo5, peekL, reifyL_nil, reifyL_cons, reify_v, eq_self, decide_true, Bool.not_false, Bool.not_true, rep_bsl, Int.reduceToNat, List.length_map, List.nil_append]; rfl)] | rw [mwp_reify_own (by simp (disch := first | omega | decide) only [go_sem, f0, f1, qo1, qo2, qo3, qo4, qo5, peekL, reifyL_nil, reifyL_cons, reify_v, eq_self, decide_true, Bool.not_false, Bool.not_true, rep_bsl, Int.reduceToNat, List.length_map, List.nil_append]; rfl)] | rw [peek_frz (by simp (disch := first | omega | decide) only [go_sem, f0, f1, qo1, qo2, qo3, qo4, qo5, peekL, reifyL_nil, reifyL_cons, reify_v, eq_self, decide_true, Bool.not_false, Bool.not_true, rep_bsl, Int.reduceToNat, List.length_map, List.nil_append]; rfl)] | rw [reify_frz (by simp (disch := first | omega | decide) only [go_sem, f0, f1, qo1, qo2, qo3, qo4, qo5, peekL, reifyL_nil, reifyL_cons, reify_v, eq_self, decide_true, Bool.not_false, Bool.not_true, rep_bsl, Int.reduceToNat, List.length_map, List.nil_append]; rfl)]); (try rw [sub_full (by first | (simp only [List.length_map, List.length_replicate]; done) | simp)])); (try simp (disch := first | omega | decide) only [go_sem, f0, f1, qo1, qo2, qo3, qo4, qo5, peekL, reifyL_nil, reifyL_cons, reify_v, eq_self, decide_true, Bool.not_false, Bool.not_true, rep_bsl, Int.reduceToNat, List.length_map, List.nil_append]); ((first | rw [peek_own (by simp (disch := first | omega | decide) only [go_sem, f0, f1, qo1, qo2, qo3, qo4, qo5, peekL, reifyL_nil, reifyL_cons, reify_v, eq_self, decide_true, Bool.not_false, Bool.not_true, rep_bsl, Int.reduceToNat, List.length_map, List.nil_append]; rfl)] | rw [mwp_reify_own (by simp (disch := first | omega | decide) only [go_sem, f0, f1, qo1, qo2, qo3, qo4, qo5, peekL, reifyL_nil, reifyL_cons, reify_v, eq_self, decide_true, Bool.not_false, Bool.not_true, rep_bsl, Int.reduceToNat, List.length_map, List.nil_append]; rfl)] | rw [peek_frz (by simp (disch := first | omega | decide) only [go_sem, f0, f1, qo1, qo2, qo3, qo4, qo5, peekL, reifyL_nil, reifyL_cons, reify_v, eq_self, decide_true, Bool.not_false, Bool.not_true, rep_bsl, Int.reduceToNat, List.length_map, List.nil_append]; rfl)] | rw [reify_frz (by simp (disch := first | omega | decide) only [go_sem, f0, f1, qo1, qo2, qo3, qo4, qo5, peekL, reifyL_nil, reifyL_cons, reify_v, eq_self, decide_true, Bool.not_false, Bool.not_true, rep_bsl, Int.reduceToNat, List.length_map, List.nil_append]; rfl)]); (try rw [sub_full (by first | (simp only [List.length_map, List.length_replicate]; done) | simp)])); exact hQ) | (((first | rw [peek_own (by simp (disch := first | omega | decide) only [go_sem, f0, f1, qo1, qo2, qo3, qo4, qo5, peekL, reifyL_nil, reifyL_cons, reify_v, eq_self, decide_true, Bool.not_false, Bool.not_true, rep_bsl, Int.reduceToNat, List.length_map, List.nil_append]; rfl)] | rw [mwp_reify_own (by simp (disch := first | omega | decide) only [go_sem, f0, f1, qo1, qo2, qo3, qo4, qo5, peekL, reifyL_nil, reifyL_cons, reify_v, eq_self, decide_true, Bool.not_false, Bool.not_true, rep_bsl, Int.reduceToNat, List.length_map, List.nil_append]; rfl)] | rw [peek_frz (by simp (disch := first | omega | decide) only [go_sem, f0, f1, qo1, qo2, qo3, qo4, qo5, peekL, reifyL_nil, reifyL_cons, reify_v, eq_self, decide_true, Bool.not_false, Bool.not_true, rep_bsl, Int.reduceToNat, List.length_map, List.nil_append]; rfl)] | rw [reify_frz (by simp (disch := first | omega | decide) only [go_sem, f0, f1, qo1, qo2, qo3, qo4, qo5, peekL, reifyL_nil, reifyL_cons, reify_v, eq_self, decide_true, Bool.not_false, Bool.not_true, rep_bsl, Int.reduceToNat, List.length_map, List.nil_append]; rfl)]); (try rw [sub_full (by first | (simp only [List.length_map, List.length_replicate]; done) | simp)])); simp (disch := first | omega | decide) only [go_sem, f0, f1, qo1, qo2, qo3, qo4, qo5, peekL, reifyL_nil, reifyL_cons, reify_v, eq_self, decide_true, Bool.not_false, Bool.not_true, rep_bsl, Int.reduceToNat, List.length_map, List.nil_append]; exact hQ)
      · exact good_DoneN
      · simp [-List.map_take, -List.map_drop, -List.map_append, -List.map_replicate, -List.reduceReplicate, noPtrL, noPtr, noPtrL_bsl, noPtrL_map, sub]
      · simp (disch := first | omega | decide) only [go_sem, f0, f1, qo1, qo2, qo3, qo4, qo5, eq_self, decide_true, Bool.not_false, Bool.not_true, rep_bsl, Int.reduceToNat, List.length_map, List.nil_append]
        exact hK _
    iterate 3 (apply aops_step (by decide) rfl; · (intro K hK; simp (disch := first | omega | decide) only [go_sem, f0, f1, qo1, qo2, qo3, qo4, qo5, eq_self, decide_true, Bool.not_false, Bool.not_true, rep_bsl, Int.reduceToNat, List.length_map, List.nil_append]; exact hK _))
    apply aops_step (by decide) rfl
    · intro K hK
      simp (disch := first | omega | decide) only [go_sem, f0, f1, qo1, qo2, qo3, qo4, qo5, act_call, List.map, eq_self, decide_true, Bool.not_false, Bool.not_true, rep_bsl, Int.reduceToNat, List.length_map, List.nil_append]
      apply mwp_call_s rfl rfl rfl
      · intro Q hQ
        simp (disch := first | omega | decide) only [go_sem, f0, f1, qo1, qo2, qo3, qo4, qo5, peekL, reifyL_nil, reifyL_cons, reify_v, eq_self, decide_true, Bool.not_false, Bool.not_true, rep_bsl, Int.reduceToNat, List.length_map, List.nil_append]
        first | exact hQ | (((first | rw [peek_own (by simp (disch := first | omega | decide) only [go_sem, f0, f1, qo1, qo2, qo3, qo4, qo5, peekL, reifyL_nil, reifyL_cons, reify_v, eq_self, decide_true, Bool.not_false, Bool.not_true, rep_bsl, Int.reduceToNat, List.length_map, List.nil_append]; rfl)] | rw [mwp_reify_own (by simp (disch := first | omega | decide) only [go_sem, f0, f1, qo1, qo2, qo3, qo4, qo5, peekL, reifyL_nil, reifyL_cons, reify_v, eq_self, decide_true, Bool.not_false, Bool.not_true, rep_bsl, Int.reduceToNat, List.length_map, List.nil_append]; rfl)] | rw [peek_frz (by simp (disch := first | omega | decide) only [go_sem, f0, f1, qo1, qo2, qo3, qo4, qo5, peekL, reifyL_nil, reifyL_cons, reify_v, eq_self, decide_true, Bool.not_false, Bool.not_true, rep_bsl, Int.reduceToNat, List.length_map, List.nil_append]; rfl)] | rw [reify_frz (by simp (disch := first | omega | decide) only [go_sem, f0, f1, qo1, qo2, qo3, qo4, qo5, peekL, reifyL_nil, reifyL_cons, reify_v, eq_self, decide_true, Bool.not_false, Bool.not_true, rep_bsl, Int.reduceToNat, List.length_map, List.nil_append]; rfl)]); (try rw [sub_full (by first | (simp only [List.length_map, List.length_replicate]; done) | simp)])); exact hQ) | (((first | rw [peek_own (by simp (disch := first | omega | decide) only [go_sem, f0, f1, qo1, qo2, qo3, qo4, qo5, peekL, reifyL_nil, reifyL_cons, reify_v, eq_self, decide_true, Bool.not_false, Bool.not_true, rep_bsl, Int.reduceToNat, List.length_map, List.nil_append]; rfl)] | rw [mwp_reify_own (by simp (disch := first | omega | decide) only [go_sem, f0, f1, qo1, qo2, qo3, qo4, qo5, peekL, reifyL_nil, reifyL_cons, reify_v, eq_self, decide_true, Bool.not_false, Bool.not_true, rep_bsl, Int.reduceToNat, List.length_map, List.nil_append]; rfl)] | rw [peek_frz (by simp (disch := first | omega | decide) only [go_sem, f0, f1, qo1, qo2, qo3, qo4, qo5, peekL, reifyL_nil, reifyL_cons, reify_v, eq_self, decide_true, Bool.not_false, Bool.not_true, rep_bsl, Int.reduceToNat, List.length_map, List.nil_append]; rfl)] | rw [reify_frz (by simp (disch := first | omega | decide) only [go_sem, f0, f1, qo1, qo2, qo3, qo4, qo5, peekL, reifyL_nil, reifyL_cons, reify_v, eq_self, decide_true, Bool.not_false, Bool.not_true, rep_bsl, Int.reduceToNat, List.length_map, List.nil_append]; rfl)]); (try rw [sub_full (by first | (simp only [List.length_map, List.length_replicate]; done) | simp)])); (try simp (disch := first | omega | decide) only [go_sem, f0, f1, qo1, qo2, qo3, qo4, qo5, peekL, reifyL_nil, reifyL_cons, reify_v, eq_self, decide_true, Bool.not_false, Bool.not_true, rep_bsl, Int.reduceToNat, List.length_map, List.nil_append]); ((first | rw [peek_own (by simp (disch := first | omega | decide) only [go_sem, f0, f1, qo1, qo2, qo3, qo4, qo5, peekL, reifyL_nil, reifyL_cons, reify_v, eq_self, decide_true, Bool.not_false, Bool.not_true, rep_bsl, Int.reduceToNat, List.length_map, List.nil_append]; rfl)] | rw [mwp_reify_own (by simp (disch := first | omega | decide) only [go_sem, f0, f1, qo1, qo2, qo3, qo4, qo5, peekL, reifyL_nil, reifyL_cons, reify_v, eq_self, decide_true, Bool.not_false, Bool.not_true, rep_bsl, Int.reduceToNat, List.length_map, List.nil_append]; rfl)] | rw [peek_frz (by simp (disch := first | omega | decide) only [go_sem, f0, f1, qo1, qo2, qo3, qo4, qo5, peekL, reifyL_nil, reifyL_cons, reify_v, eq_self, decide_true, Bool.not_false, Bool.not_true, rep_bsl, Int.reduceToNat, List.length_map, List.nil_append]; rfl)] | rw [reify_frz (by simp (disch := first | omega | decide) only [go_sem, f0, f1, qo1, qo2, qo3, qo4, qo5, peekL, reifyL_nil, reifyL_cons, reify_v, eq_self, decide_true, Bool.not_false, Bool.not_true, rep_bsl, Int.reduceToNat, List.length_map, List.nil_append]; rfl)]); (try rw [sub_full (by first | (simp only [List.length_map, List.length_replicate]; done) | simp)])); exact hQ) | (((first | rw [peek_own (by simp (disch := first | omega | decide) only [go_sem, f0, f1, qo1, qo2, qo3, qo4, qo5, peekL, reifyL_nil, reifyL_cons, reify_v, eq_self, decide_true, Bool.not_false, Bool.not_true, rep_bsl, Int.reduceToNat, List.length_map, List.nil_append]; rfl)] | rw [mwp_reify_own (by simp (disch := first | omega | decide) only [go_sem, f0, f1, qo1, qo2, qo3, qo4, qo5, peekL, reifyL_nil, reifyL_cons, reify_v, eq_self, decide_true, Bool.not_false, Bool.not_true, rep_bsl, Int.reduceToNat, List.length_map, List.nil_append]; rfl)] | rw [peek_frz (by simp (disch := first | omega | decide) only [go_sem, f0, f1, qo1, qo2, qo3, qo4, qo5, peekL, reifyL_nil, reifyL_cons, reify_v, eq_self, decide_true, Bool.not_false, Bool.not_true, rep_bsl, Int.reduceToNat, List.length_map, List.nil_append]; rfl)] | rw [reify_frz (by simp (disch := first | omega | decide) only [go_sem, f0, f1, qo1, qo2, qo3, qo4, qo5, peekL, reifyL_nil, reifyL_cons, reify_v, eq_self, decide_true, Bool.not_false, Bool.not_true, rep_bsl, Int.reduceToNat, List.length_map, List.nil_append]; rfl)]); (try rw [sub_full (by first | (simp only [List.length_map, List.length_replicate]; done) | simp)])); simp (disch := first | omega | decide) only [go_sem, f0, f1, qo1, qo2, qo3, qo4, qo5, peekL, reifyL_nil, reifyL_cons, reify_v, eq_self, decide_true, Bool.not_false, Bool.not_true, rep_bsl, Int.reduceToNat, List.length_map, List.nil_append]; exact hQ)
      · exact good_awake
      · simp [-List.map_take, -List.map_drop, -List.map_append, -List.map_replicate, -List.reduceReplicate, noPtrL, noPtr, noPtrL_bsl, noPtrL_map, sub]
      · rfl
      · exact hK _
    iterate 2 (apply aops_step (by decide) rfl; · (intro K hK; simp (disch := first | omega | decide) only [go_sem, f0, f1, qo1, qo2, qo3, qo4, qo5, eq_self, decide_true, Bool.not_false, Bool.not_true, rep_bsl, Int.reduceToNat, List.length_map, List.nil_append]; exact hK _))
    refine aops_nil ?_
    refine AW.ret ?_
    refine ⟨.inr rfl, ?_⟩
    refine leaves_tmp1 4 rfl ?_ (by first | rfl | exact hG)
    simp (disch := first | omega | decide) only [go_sem, f0, f1, qo1, qo2, qo3, qo4, qo5, eq_self, decide_true, Bool.not_false, Bool.not_true, rep_bsl, Int.reduceToNat, List.length_map, List.nil_append]
    all_goals first | done | trace_state

end Go.Vai.O
