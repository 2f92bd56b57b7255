import Derived.Test.YtphmphdckkhblaaSpaceW
namespace Go.Vai.S
open Go.Proofs Go.Vai
set_option linter.unusedSimpArgs false
set_option linter.unusedVariables false
theorem u22 : Try.prog.underlying 22 = some (.slice 5) := by kernel_rfl
theorem ti5 : tiOf Try.prog 5 = some ⟨1, 1, [.base (.int .u8 0)], false⟩ := by kernel_rfl

theorem a_ok {u : Int} (h : 0 ≤ u ∧ u ≤ 4611686018427387904) : aN u = u + 1 ∧ aU u = u ∧ aE u = 0 := by
  have : aBad u = false := by simp [aBad]; omega
  simp [aN, aU, aE, this]
theorem mayS_of {x u : Int} (h : 0 ≤ u ∧ u ≤ 4611686018427387904 ∧ 1 ≤ x ∧ x - 1 ≤ u) : mayS x u = true := by
  simp only [mayS, Bool.and_eq_true, decide_eq_true_eq]; omega
theorem grant_ok {x u : Int} (h : mayS x u = true) (h1 : ¬ wE x u = 9) (h2 : ¬ wV x u ≤ u) : gN x u (wV x u) = x ∧ gU x u (wV x u) = wV x u ∧ gE x u (wV x u) = 0 ∧ wE x u = 0 ∧ mayS x (wV x u) = true ∧ 0 ≤ wV x u ∧ wV x u ≤ 4611686018427387904 := by
  have hr := mayS_range h
  simp only [wE, h, if_true] at h1
  have hx : ¬ x > 4611686018427387904 := fun hx => h1 (if_pos hx)
  have hw : wV x u = min (x + 7) 4611686018427387904 := by simp only [wV, h, if_true, if_neg hx]
  have hb : gBad x u (wV x u) = false := by simp [gBad, h]; omega
  refine ⟨by simp [gN, hb], by simp [gU, hb], by simp [gE, hb], by simp [wE, h, hx], mayS_of (by omega), by omega, by omega⟩
theorem take_ok {x u : Int} (h : mayS x u = true) (h1 : ¬ tE x u = 3) : tV x u = x ∧ tN x u = x + 1 ∧ tU x u = u ∧ tE x u = 0 ∧ x ≤ u := by
  have hr := mayS_range h
  simp only [tE, h, if_true] at h1
  have hx : ¬ x > u := fun hx => h1 (if_pos hx)
  refine ⟨by simp [tV, h, hx], by simp [tN, h, hx], by simp [tU, h, hx], by simp [tE, h, hx], by omega⟩
theorem wV_range (x u : Int) : 0 ≤ wV x u ∧ wV x u ≤ 4611686018427387904 := by
  unfold wV
  split
  · rename_i h
    have := mayS_range h
    split <;> omega
  · omega
set_option maxHeartbeats 4000000 in
set_option maxRecDepth 100000 in
theorem good_SpaceRises (u : Int) (nil : Bool) (l : List (BitVec 8)) (hu : -9223372036854775808 ≤ u ∧ u ≤ 9223372036854775807) (hl : l.length ≤ 9223372036854775807) : Good Try.prog 10 [(i64 u, false), (.sl 1 nil (bsl l), false)] [] [(.b true, false)] [] := by
  refine good_of_body2 110 Try.func10 rfl rfl rfl (by simp) ?_
  intro s m ha hr hv hG
  have f0 : s 0 = .v (i64 u) := ha 0 _ rfl
  have f1 : s 1 = .v (.sl 1 nil (bsl l)) := ha 1 _ rfl
  clear ha
  refine AW.seq ?_
  refine AW.region (cfg := cfg) ?_
  iterate 1 (apply aops_step (by decide) rfl; · (intro K hK; simp (disch := first | omega | decide) only [go_sem, f0, f1]; exact hK _))
  refine aops_nil ?_
  refine AW.seq ?_
  refine AW.seq ?_
  refine AW.region (cfg := cfg) ?_
  iterate 4 (apply aops_step (by decide) rfl; · (intro K hK; simp (disch := first | omega | decide) only [go_sem, f0, f1, List.map, List.length_map, aops_len u22]; exact hK _))
  apply aops_merge' (by decide) (by first | exact want_of (d := 22) rfl (by simp (disch := first | omega | decide) only [go_sem, f0, f1, opn_cond]; rfl) | exact want_of_cond (d := 22) rfl (by simp (disch := first | omega | decide) only [go_sem, f0, f1, opn_cond]; rfl))
  · intro hc K hK
    have hc2 := hc
    simp only [beq_iff_eq, decide_eq_true_eq, decide_eq_false_iff_not, Bool.or_eq_true, Bool.and_eq_true, Bool.or_eq_false_iff, Bool.and_eq_false_iff] at hc2
    simp (disch := first | omega | decide) only [go_sem, f0, f1, opn_cond, hc, if_true]
    exact hK _
  apply aops_merge' (by decide) (by first | exact want_of (d := 22) rfl (by simp (disch := first | omega | decide) only [go_sem, f0, f1, opn_cond]; rfl) | exact want_of_cond (d := 22) rfl (by simp (disch := first | omega | decide) only [go_sem, f0, f1, opn_cond]; rfl))
  · intro hc K hK
    have hc2 := hc
    simp only [beq_iff_eq, decide_eq_true_eq, decide_eq_false_iff_not, Bool.or_eq_true, Bool.and_eq_true, Bool.or_eq_false_iff, Bool.and_eq_false_iff] at hc2
    simp (disch := first | omega | decide) only [go_sem, f0, f1, opn_cond, hc, if_true]
    exact hK _
  iterate 2 (apply aops_step (by decide) rfl; · (intro K hK; simp (disch := first | omega | decide) only [go_sem, f0, f1]; exact hK _))
  apply aops_merge' (by decide) (by first | exact want_of (d := 26) rfl (by simp (disch := first | omega | decide) only [go_sem, f0, f1, opn_cond]; rfl) | exact want_of_cond (d := 26) rfl (by simp (disch := first | omega | decide) only [go_sem, f0, f1, opn_cond]; rfl))
  · intro hc K hK
    have hc2 := hc
    simp only [beq_iff_eq, decide_eq_true_eq, decide_eq_false_iff_not, Bool.or_eq_true, Bool.and_eq_true, Bool.or_eq_false_iff, Bool.and_eq_false_iff] at hc2
    simp (disch := first | omega | decide) only [go_sem, f0, f1, opn_cond, hc, if_true]
    exact hK _
  apply aops_merge' (by decide) (by first | exact want_of (d := 26) rfl (by simp (disch := first | omega | decide) only [go_sem, f0, f1, opn_cond]; rfl) | exact want_of_cond (d := 26) rfl (by simp (disch := first | omega | decide) only [go_sem, f0, f1, opn_cond]; rfl))
  · intro hc K hK
    have hc2 := hc
    simp only [beq_iff_eq, decide_eq_true_eq, decide_eq_false_iff_not, Bool.or_eq_true, Bool.and_eq_true, Bool.or_eq_false_iff, Bool.and_eq_false_iff] at hc2
    simp (disch := first | omega | decide) only [go_sem, f0, f1, opn_cond, hc, if_true]
    exact hK _
  iterate 1 (apply aops_step (by decide) rfl; · (intro K hK; simp (disch := first | omega | decide) only [go_sem, f0, f1]; exact hK _))
  refine aops_nil ?_
  apply AW.cond
  · simp (disch := first | omega | decide) only [go_sem, f0, f1]; rfl
  case ht =>
    intro hb
    try simp only [Bool.or_eq_true, Bool.and_eq_true, Bool.or_eq_false_iff, Bool.and_eq_false_iff, decide_eq_true_eq, decide_eq_false_iff_not] at hb
    have hbt29 := hb
    refine AW.seq ?_
    refine AW.region (cfg := cfg) ?_
    apply aops_step (by decide) rfl
    · intro K hK
      simp (disch := first | omega | decide) only [go_sem, f0, f1, act_call, List.map]
      apply mwp_call_s rfl rfl rfl
      · intro Q hQ
        simp (disch := first | omega | decide) only [go_sem, f0, f1, peekL]
        first | exact hQ | (rw [peek_own (by simp (disch := first | omega | decide) only [go_sem, f0, f1, peekL]; rfl)]; exact hQ) | (rw [peek_own (by simp (disch := first | omega | decide) only [go_sem, f0, f1, peekL]; rfl)]; simp (disch := first | omega | decide) only [go_sem, f0, f1, peekL]; rw [peek_own (by simp (disch := first | omega | decide) only [go_sem, f0, f1, peekL]; rfl)]; exact hQ) | (rw [peek_own (by simp (disch := first | omega | decide) only [go_sem, f0, f1, peekL]; rfl)]; simp (disch := first | omega | decide) only [go_sem, f0, f1, peekL]; exact hQ)
      · exact good_awake
      · simp [-List.map_take, -List.map_drop, noPtrL, noPtr, noPtrL_bsl, noPtrL_map, sub]
      · rfl
      · exact hK _
    iterate 1 (apply aops_step (by decide) rfl; · (intro K hK; simp (disch := first | omega | decide) only [go_sem, f0, f1]; exact hK _))
    refine aops_nil ?_
    refine AW.ret ?_
    refine ⟨.inr rfl, ?_⟩
    refine leaves_tmp1 4 rfl ?_ (by first | rfl | exact hG)
    simp (disch := first | omega | decide) only [go_sem, f0, f1]
    all_goals first | done | (exfalso; simp at hb; done) | (exfalso; omega) | (exfalso; simp at hb; omega) | trace_state
  case hf =>
    intro hb
    try simp only [Bool.or_eq_true, Bool.and_eq_true, Bool.or_eq_false_iff, Bool.and_eq_false_iff, decide_eq_true_eq, decide_eq_false_iff_not] at hb
    have hbt29 := hb
    refine AW.skip ?_
    refine AW.seq ?_
    obtain ⟨q1, q2, q3⟩ := a_ok (u := u) (by omega)
    refine AW.region (cfg := cfg) ?_
    iterate 1 (apply aops_step (by decide) rfl; · (intro K hK; simp (disch := first | omega | decide) only [go_sem, f0, f1, q1, q2, q3]; exact hK _))
    apply aops_step (by decide) rfl
    · intro K hK
      simp (disch := first | omega | decide) only [go_sem, f0, f1, q1, q2, q3, act_call, List.map]
      apply mwp_call_r rfl rfl rfl
      · intro Q hQ
        simp (disch := first | omega | decide) only [go_sem, f0, f1, q1, q2, q3, peekL]
        first | exact hQ | (rw [peek_own (by simp (disch := first | omega | decide) only [go_sem, f0, f1, q1, q2, q3, peekL]; rfl)]; exact hQ) | (rw [peek_own (by simp (disch := first | omega | decide) only [go_sem, f0, f1, q1, q2, q3, peekL]; rfl)]; simp (disch := first | omega | decide) only [go_sem, f0, f1, q1, q2, q3, peekL]; rw [peek_own (by simp (disch := first | omega | decide) only [go_sem, f0, f1, q1, q2, q3, peekL]; rfl)]; exact hQ) | (rw [peek_own (by simp (disch := first | omega | decide) only [go_sem, f0, f1, q1, q2, q3, peekL]; rfl)]; simp (disch := first | omega | decide) only [go_sem, f0, f1, q1, q2, q3, peekL]; exact hQ)
      · exact good_After _ (by omega)
      · simp [-List.map_take, -List.map_drop, noPtrL, noPtr, noPtrL_bsl, noPtrL_map, sub]
      · simp (disch := first | omega | decide) only [go_sem, f0, f1, q1, q2, q3]
        exact hK _
    iterate 3 (apply aops_step (by decide) rfl; · (intro K hK; simp (disch := first | omega | decide) only [go_sem, f0, f1, q1, q2, q3]; exact hK _))
    apply aops_step (by decide) rfl
    · intro K hK
      simp (disch := first | omega | decide) only [go_sem, f0, f1, q1, q2, q3, act_alloc_t ti56, List.map]
      exact hK _
    apply aops_step0 rfl
    · intro K hK
      simp (disch := first | omega | decide) only [go_sem, f0, f1, q1, q2, q3, act_store_t ti56, List.map]
      first | rw [mwp_store_c (by simp (disch := first | omega | decide) only [go_sem, f0, f1, q1, q2, q3]; rfl) (by rfl) (by rfl) (by rfl) (by simp)] | rw [mwp_aStore_map (by simp (disch := first | omega | decide) only [go_sem, f0, f1, q1, q2, q3]; rfl) (by first | omega | (simp; omega)) (fun _ => rfl) rfl rfl (fun _ => rfl)] | skip
      try simp only [setAt, cellsL, cellsOf_agg, cellsOf_base, List.map_cons, List.map_nil, List.set_cons_zero, List.set_cons_succ, Nat.reduceAdd, Nat.zero_add]
      exact hK _
    iterate 1 (apply aops_step (by decide) rfl; · (intro K hK; simp (disch := first | omega | decide) only [go_sem, f0, f1, q1, q2, q3]; exact hK _))
    refine aops_nil ?_
    refine AW.seq ?_
    refine AW.seq ?_
    refine AW.region (cfg := cfg) ?_
    iterate 2 (apply aops_step (by decide) rfl; · (intro K hK; simp (disch := first | omega | decide) only [go_sem, f0, f1, q1, q2, q3]; exact hK _))
    refine aops_nil ?_
    apply AW.cond
    · simp (disch := first | omega | decide) only [go_sem, f0, f1, q1, q2, q3]; rfl
    case ht =>
      intro hb
      try simp only [Bool.or_eq_true, Bool.and_eq_true, Bool.or_eq_false_iff, Bool.and_eq_false_iff, decide_eq_true_eq, decide_eq_false_iff_not] at hb
      have hbt37 := hb
      refine AW.seq ?_
      refine AW.region (cfg := cfg) ?_
      iterate 1 (apply aops_step (by decide) rfl; · (intro K hK; simp (disch := first | omega | decide) only [go_sem, f0, f1, q1, q2, q3]; exact hK _))
      refine aops_nil ?_
      refine AW.ret ?_
      refine ⟨.inr rfl, ?_⟩
      refine leaves_tmp1 4 rfl ?_ (by first | rfl | exact hG)
      simp (disch := first | omega | decide) only [go_sem, f0, f1, q1, q2, q3]
      all_goals first | done | (exfalso; simp at hb; done) | (exfalso; omega) | (exfalso; simp at hb; omega) | trace_state
    case hf =>
      intro hb
      try simp only [Bool.or_eq_true, Bool.and_eq_true, Bool.or_eq_false_iff, Bool.and_eq_false_iff, decide_eq_true_eq, decide_eq_false_iff_not] at hb
      have hbt37 := hb
      refine AW.skip ?_
      refine AW.seq ?_
      refine AW.region (cfg := cfg) ?_
      iterate 2 (apply aops_step (by decide) rfl; · (intro K hK; simp (disch := first | omega | decide) only [go_sem, f0, f1, q1, q2, q3]; exact hK _))
      refine aops_nil ?_
      refine AW.seq ?_
      refine AW.region (cfg := cfg) ?_
      iterate 2 (apply aops_step (by decide) rfl; · (intro K hK; simp (disch := first | omega | decide) only [go_sem, f0, f1, q1, q2, q3]; exact hK _))
      refine aops_nil ?_
      refine AW.seq ?_
      refine AW.seq ?_
      refine AW.region (cfg := cfg) ?_
      iterate 1 (apply aops_step (by decide) rfl; · (intro K hK; simp (disch := first | omega | decide) only [go_sem, f0, f1, q1, q2, q3]; exact hK _))
      refine aops_nil ?_
      refine AW.block ?_
      refine AW.forN (fun k σ => ∃ s m x gr la, σ = ⟨110, s, m⟩ ∧ s 1 = .v (.sl 1 nil (bsl l)) ∧ s 5 = .lptr (.tmp 5 0) (m.objs (.tmp 5 0)).1 0 ∧ (m.objs (.tmp 5 0)).2 = .box [.v (i64 x), .v (i64 gr)] ∧ s 7 = .v (i64 gr) ∧ s 8 = .v (i64 la) ∧ s 9 = .v (i64 (k : Int)) ∧ (mayS x gr = true) ∧ (la < x) ∧ (la ≤ gr) ∧ m.G = []) (l.length) ?_ ?_ ?_
      · refine ⟨_, _, ?_, ?_, ?_, rfl, ?_, ?_, ?_, ?_, ?_, ?_, ?_, ?_, ?_, hG⟩ <;> try simp (disch := first | omega | decide) only [go_sem, f0, f1, q1, q2, q3]
        all_goals first | rfl | skip
        all_goals first | assumption | omega | exact mayS_of (by omega) | (exfalso; simp at hb) | trace_state
      · clear f0 f1 hG
        rintro k σ hk ⟨s, m, x, gr, la, rfl, f1, f5, o5, f7, f8, f9, mo0, mo1, mo2, hG⟩
        obtain ⟨g5, o5⟩ : ∃ g, m.objs (.tmp 5 0) = (g, .box [.v (i64 x), .v (i64 gr)]) := ⟨_, Prod.ext rfl o5⟩
        rw [o5] at f5
        refine AW.seq ?_
        refine AW.seq ?_
        refine AW.region (cfg := cfg) ?_
        iterate 4 (apply aops_step (by decide) rfl; · (intro K hK; simp (disch := first | omega | decide) only [go_sem, f1, f5, f7, f8, f9, o5, q1, q2, q3, List.map, List.length_map, aops_len u22]; exact hK _))
        refine aops_nil ?_
        apply AW.cond
        · simp (disch := first | omega | decide) only [go_sem, f1, f5, f7, f8, f9, o5, q1, q2, q3]; rfl
        case hf => intro hb; first | (simp at hb; done) | (simp at hb; omega)
        case ht =>
        intro hb
        have hbt43 := hb
        refine AW.skip ?_
        refine AW.seq ?_
        refine AW.block ?_
        refine AW.seq ?_
        have hmr := mayS_range mo0
        obtain ⟨r1, r2, r3⟩ := a_ok (u := gr) (by omega)
        refine AW.region (cfg := cfg) ?_
        iterate 2 (apply aops_step (by decide) rfl; · (intro K hK; simp (disch := first | omega | decide) only [go_sem, f1, f5, f7, f8, f9, o5, q1, q2, q3, r1, r2, r3]; exact hK _))
        apply aops_step (by decide) rfl
        · intro K hK
          simp (disch := first | omega | decide) only [go_sem, f1, f5, f7, f8, f9, o5, q1, q2, q3, r1, r2, r3, act_indexAddr_s u22 ti5, List.map]
          first | rw [mwp_aIndex_own (by simp (disch := first | omega | decide) only [go_sem, f1, f5, f7, f8, f9, o5, q1, q2, q3, r1, r2, r3]; rfl) (by first | omega | (simp; omega)) (by first | omega | (simp; omega))] | skip
          exact hK _
        apply aops_step (by decide) rfl
        · intro K hK
          simp (disch := first | omega | decide) only [go_sem, f1, f5, f7, f8, f9, o5, q1, q2, q3, r1, r2, r3, act_load_t ti5, List.map]
          first | rw [mwp_load_bs (by simp (disch := first | omega | decide) only [go_sem, f1, f5, f7, f8, f9, o5, q1, q2, q3, r1, r2, r3]; rfl) (by simp)] | rw [mwp_load_b1 (by simp (disch := first | omega | decide) only [go_sem, f1, f5, f7, f8, f9, o5, q1, q2, q3, r1, r2, r3]; rfl) (by rfl)] | rw [mwp_aLoad_map (by simp (disch := first | omega | decide) only [go_sem, f1, f5, f7, f8, f9, o5, q1, q2, q3, r1, r2, r3]; rfl) (by first | omega | (simp; omega)) (fun _ => rfl)] | rw [mwp_aLoad_e1 (by simp (disch := first | omega | decide) only [go_sem, f1, f5, f7, f8, f9, o5, q1, q2, q3, r1, r2, r3]; rfl) (by simp) rfl] | skip
          exact hK _
        iterate 1 (apply aops_step (by decide) rfl; · (intro K hK; simp (disch := first | omega | decide) only [go_sem, f1, f5, f7, f8, f9, o5, q1, q2, q3, r1, r2, r3]; exact hK _))
        refine aops_nil ?_
        refine AW.block ?_
        refine AW.seq ?_
        refine AW.region (cfg := cfg) ?_
        iterate 2 (apply aops_step (by decide) rfl; · (intro K hK; simp (disch := first | omega | decide) only [go_sem, f1, f5, f7, f8, f9, o5, q1, q2, q3, r1, r2, r3]; exact hK _))
        refine aops_nil ?_
        apply AW.cond
        · simp (disch := first | omega | decide) only [go_sem, f1, f5, f7, f8, f9, o5, q1, q2, q3, r1, r2, r3]; rfl
        case ht =>
          intro hb
          try simp only [Bool.or_eq_true, Bool.and_eq_true, Bool.or_eq_false_iff, Bool.and_eq_false_iff, decide_eq_true_eq, decide_eq_false_iff_not] at hb
          have hbt73 := hb
          refine AW.seq ?_
          refine AW.region (cfg := cfg) ?_
          iterate 1 (apply aops_step (by decide) rfl; · (intro K hK; simp (disch := first | omega | decide) only [go_sem, f1, f5, f7, f8, f9, o5, q1, q2, q3, r1, r2, r3]; exact hK _))
          apply aops_step (by decide) rfl
          · intro K hK
            simp (disch := first | omega | decide) only [go_sem, f1, f5, f7, f8, f9, o5, q1, q2, q3, r1, r2, r3, act_call, List.map]
            apply mwp_call_r rfl rfl rfl
            · intro Q hQ
              simp (disch := first | omega | decide) only [go_sem, f1, f5, f7, f8, f9, o5, q1, q2, q3, r1, r2, r3, peekL]
              first | exact hQ | (rw [peek_own (by simp (disch := first | omega | decide) only [go_sem, f1, f5, f7, f8, f9, o5, q1, q2, q3, r1, r2, r3, peekL]; rfl)]; exact hQ) | (rw [peek_own (by simp (disch := first | omega | decide) only [go_sem, f1, f5, f7, f8, f9, o5, q1, q2, q3, r1, r2, r3, peekL]; rfl)]; simp (disch := first | omega | decide) only [go_sem, f1, f5, f7, f8, f9, o5, q1, q2, q3, r1, r2, r3, peekL]; rw [peek_own (by simp (disch := first | omega | decide) only [go_sem, f1, f5, f7, f8, f9, o5, q1, q2, q3, r1, r2, r3, peekL]; rfl)]; exact hQ) | (rw [peek_own (by simp (disch := first | omega | decide) only [go_sem, f1, f5, f7, f8, f9, o5, q1, q2, q3, r1, r2, r3, peekL]; rfl)]; simp (disch := first | omega | decide) only [go_sem, f1, f5, f7, f8, f9, o5, q1, q2, q3, r1, r2, r3, peekL]; exact hQ)
            · exact good_After _ (by omega)
            · simp [-List.map_take, -List.map_drop, noPtrL, noPtr, noPtrL_bsl, noPtrL_map, sub]
            · simp (disch := first | omega | decide) only [go_sem, f1, f5, f7, f8, f9, o5, q1, q2, q3, r1, r2, r3]
              exact hK _
          iterate 3 (apply aops_step (by decide) rfl; · (intro K hK; simp (disch := first | omega | decide) only [go_sem, f1, f5, f7, f8, f9, o5, q1, q2, q3, r1, r2, r3]; exact hK _))
          apply aops_step (by decide) rfl
          · intro K hK
            simp (disch := first | omega | decide) only [go_sem, f1, f5, f7, f8, f9, o5, q1, q2, q3, r1, r2, r3, act_alloc_t ti56, List.map]
            exact hK _
          apply aops_step0 rfl
          · intro K hK
            simp (disch := first | omega | decide) only [go_sem, f1, f5, f7, f8, f9, o5, q1, q2, q3, r1, r2, r3, act_store_t ti56, List.map]
            first | rw [mwp_store_c (by simp (disch := first | omega | decide) only [go_sem, f1, f5, f7, f8, f9, o5, q1, q2, q3, r1, r2, r3]; rfl) (by rfl) (by rfl) (by rfl) (by simp)] | rw [mwp_aStore_map (by simp (disch := first | omega | decide) only [go_sem, f1, f5, f7, f8, f9, o5, q1, q2, q3, r1, r2, r3]; rfl) (by first | omega | (simp; omega)) (fun _ => rfl) rfl rfl (fun _ => rfl)] | skip
            try simp only [setAt, cellsL, cellsOf_agg, cellsOf_base, List.map_cons, List.map_nil, List.set_cons_zero, List.set_cons_succ, Nat.reduceAdd, Nat.zero_add]
            exact hK _
          iterate 1 (apply aops_step (by decide) rfl; · (intro K hK; simp (disch := first | omega | decide) only [go_sem, f1, f5, f7, f8, f9, o5, q1, q2, q3, r1, r2, r3]; exact hK _))
          refine aops_nil ?_
          refine AW.seq ?_
          refine AW.seq ?_
          refine AW.region (cfg := cfg) ?_
          iterate 2 (apply aops_step (by decide) rfl; · (intro K hK; simp (disch := first | omega | decide) only [go_sem, f1, f5, f7, f8, f9, o5, q1, q2, q3, r1, r2, r3]; exact hK _))
          refine aops_nil ?_
          apply AW.cond
          · simp (disch := first | omega | decide) only [go_sem, f1, f5, f7, f8, f9, o5, q1, q2, q3, r1, r2, r3]; rfl
          case ht =>
            intro hb
            try simp only [Bool.or_eq_true, Bool.and_eq_true, Bool.or_eq_false_iff, Bool.and_eq_false_iff, decide_eq_true_eq, decide_eq_false_iff_not] at hb
            have hbt81 := hb
            refine AW.seq ?_
            refine AW.region (cfg := cfg) ?_
            iterate 1 (apply aops_step (by decide) rfl; · (intro K hK; simp (disch := first | omega | decide) only [go_sem, f1, f5, f7, f8, f9, o5, q1, q2, q3, r1, r2, r3]; exact hK _))
            refine aops_nil ?_
            refine AW.ret ?_
            refine ⟨.inr rfl, ?_⟩
            refine leaves_tmp1 4 rfl ?_ (by first | rfl | exact hG)
            simp (disch := first | omega | decide) only [go_sem, f1, f5, f7, f8, f9, o5, q1, q2, q3, r1, r2, r3]
            all_goals first | done | (exfalso; simp at hb; done) | (exfalso; omega) | (exfalso; simp at hb; omega) | trace_state
          case hf =>
            intro hb
            try simp only [Bool.or_eq_true, Bool.and_eq_true, Bool.or_eq_false_iff, Bool.and_eq_false_iff, decide_eq_true_eq, decide_eq_false_iff_not] at hb
            have hbt81 := hb
            refine AW.skip ?_
            refine AW.region (cfg := cfg) ?_
            apply aops_step (by decide) rfl
            · intro K hK
              simp (disch := first | omega | decide) only [go_sem, f1, f5, f7, f8, f9, o5, q1, q2, q3, r1, r2, r3, act_load_t ti56, List.map]
              first | rw [mwp_load_bs (by simp (disch := first | omega | decide) only [go_sem, f1, f5, f7, f8, f9, o5, q1, q2, q3, r1, r2, r3]; rfl) (by simp)] | rw [mwp_load_b1 (by simp (disch := first | omega | decide) only [go_sem, f1, f5, f7, f8, f9, o5, q1, q2, q3, r1, r2, r3]; rfl) (by rfl)] | rw [mwp_aLoad_map (by simp (disch := first | omega | decide) only [go_sem, f1, f5, f7, f8, f9, o5, q1, q2, q3, r1, r2, r3]; rfl) (by first | omega | (simp; omega)) (fun _ => rfl)] | rw [mwp_aLoad_e1 (by simp (disch := first | omega | decide) only [go_sem, f1, f5, f7, f8, f9, o5, q1, q2, q3, r1, r2, r3]; rfl) (by simp) rfl] | skip
              exact hK _
            apply aops_step0 rfl
            · intro K hK
              simp (disch := first | omega | decide) only [go_sem, f1, f5, f7, f8, f9, o5, q1, q2, q3, r1, r2, r3, act_store_t ti56, List.map]
              first | rw [mwp_store_c (by simp (disch := first | omega | decide) only [go_sem, f1, f5, f7, f8, f9, o5, q1, q2, q3, r1, r2, r3]; rfl) (by rfl) (by rfl) (by rfl) (by simp)] | rw [mwp_aStore_map (by simp (disch := first | omega | decide) only [go_sem, f1, f5, f7, f8, f9, o5, q1, q2, q3, r1, r2, r3]; rfl) (by first | omega | (simp; omega)) (fun _ => rfl) rfl rfl (fun _ => rfl)] | skip
              try simp only [setAt, cellsL, cellsOf_agg, cellsOf_base, List.map_cons, List.map_nil, List.set_cons_zero, List.set_cons_succ, Nat.reduceAdd, Nat.zero_add]
              exact hK _
            refine aops_nil ?_
            refine AW.region (cfg := cfg) ?_
            iterate 3 (apply aops_step (by decide) rfl; · (intro K hK; simp (disch := first | omega | decide) only [go_sem, f1, f5, f7, f8, f9, o5, q1, q2, q3, r1, r2, r3]; exact hK _))
            refine aops_nil ?_
            refine ⟨_, _, ?_, ?_, ?_, rfl, ?_, ?_, ?_, ?_, ?_, ?_, ?_, ?_, ?_, hG⟩ <;> try simp (disch := first | omega | decide) only [go_sem, f1, f5, f7, f8, f9, o5, q1, q2, q3, r1, r2, r3]
            all_goals first | rfl | skip
            all_goals first | assumption | omega | exact mayS_of (by omega) | (exfalso; simp at hb) | trace_state
        case hf =>
          intro hb
          try simp only [Bool.or_eq_true, Bool.and_eq_true, Bool.or_eq_false_iff, Bool.and_eq_false_iff, decide_eq_true_eq, decide_eq_false_iff_not] at hb
          have hbt73 := hb
          refine AW.seq ?_
          refine AW.region (cfg := cfg) ?_
          iterate 2 (apply aops_step (by decide) rfl; · (intro K hK; simp (disch := first | omega | decide) only [go_sem, f1, f5, f7, f8, f9, o5, q1, q2, q3, r1, r2, r3]; exact hK _))
          refine aops_nil ?_
          apply AW.cond
          · simp (disch := first | omega | decide) only [go_sem, f1, f5, f7, f8, f9, o5, q1, q2, q3, r1, r2, r3]; rfl
          case ht =>
            intro hb
            try simp only [Bool.or_eq_true, Bool.and_eq_true, Bool.or_eq_false_iff, Bool.and_eq_false_iff, decide_eq_true_eq, decide_eq_false_iff_not] at hb
            have hbt83 := hb
            refine AW.seq ?_
            refine AW.region (cfg := cfg) ?_
            apply aops_step (by decide) rfl
            · intro K hK
              simp (disch := first | omega | decide) only [go_sem, f1, f5, f7, f8, f9, o5, q1, q2, q3, r1, r2, r3, act_load_t ti56, List.map]
              first | rw [mwp_load_bs (by simp (disch := first | omega | decide) only [go_sem, f1, f5, f7, f8, f9, o5, q1, q2, q3, r1, r2, r3]; rfl) (by simp)] | rw [mwp_load_b1 (by simp (disch := first | omega | decide) only [go_sem, f1, f5, f7, f8, f9, o5, q1, q2, q3, r1, r2, r3]; rfl) (by rfl)] | rw [mwp_aLoad_map (by simp (disch := first | omega | decide) only [go_sem, f1, f5, f7, f8, f9, o5, q1, q2, q3, r1, r2, r3]; rfl) (by first | omega | (simp; omega)) (fun _ => rfl)] | rw [mwp_aLoad_e1 (by simp (disch := first | omega | decide) only [go_sem, f1, f5, f7, f8, f9, o5, q1, q2, q3, r1, r2, r3]; rfl) (by simp) rfl] | skip
              exact hK _
            apply aops_step (by decide) rfl
            · intro K hK
              simp (disch := first | omega | decide) only [go_sem, f1, f5, f7, f8, f9, o5, q1, q2, q3, r1, r2, r3, act_call, List.map]
              apply mwp_call_r rfl rfl rfl
              · intro Q hQ
                simp (disch := first | omega | decide) only [go_sem, f1, f5, f7, f8, f9, o5, q1, q2, q3, r1, r2, r3, peekL]
                first | exact hQ | (rw [peek_own (by simp (disch := first | omega | decide) only [go_sem, f1, f5, f7, f8, f9, o5, q1, q2, q3, r1, r2, r3, peekL]; rfl)]; exact hQ) | (rw [peek_own (by simp (disch := first | omega | decide) only [go_sem, f1, f5, f7, f8, f9, o5, q1, q2, q3, r1, r2, r3, peekL]; rfl)]; simp (disch := first | omega | decide) only [go_sem, f1, f5, f7, f8, f9, o5, q1, q2, q3, r1, r2, r3, peekL]; rw [peek_own (by simp (disch := first | omega | decide) only [go_sem, f1, f5, f7, f8, f9, o5, q1, q2, q3, r1, r2, r3, peekL]; rfl)]; exact hQ) | (rw [peek_own (by simp (disch := first | omega | decide) only [go_sem, f1, f5, f7, f8, f9, o5, q1, q2, q3, r1, r2, r3, peekL]; rfl)]; simp (disch := first | omega | decide) only [go_sem, f1, f5, f7, f8, f9, o5, q1, q2, q3, r1, r2, r3, peekL]; exact hQ)
              · exact good_Want _ _ (by omega) (by omega)
              · simp [-List.map_take, -List.map_drop, noPtrL, noPtr, noPtrL_bsl, noPtrL_map, sub]
              · simp (disch := first | omega | decide) only [go_sem, f1, f5, f7, f8, f9, o5, q1, q2, q3, r1, r2, r3]
                exact hK _
            iterate 5 (apply aops_step (by decide) rfl; · (intro K hK; simp (disch := first | omega | decide) only [go_sem, f1, f5, f7, f8, f9, o5, q1, q2, q3, r1, r2, r3]; exact hK _))
            refine aops_nil ?_
            refine AW.seq ?_
            refine AW.seq ?_
            refine AW.region (cfg := cfg) ?_
            iterate 2 (apply aops_step (by decide) rfl; · (intro K hK; simp (disch := first | omega | decide) only [go_sem, f1, f5, f7, f8, f9, o5, q1, q2, q3, r1, r2, r3]; exact hK _))
            refine aops_nil ?_
            apply AW.cond
            · simp (disch := first | omega | decide) only [go_sem, f1, f5, f7, f8, f9, o5, q1, q2, q3, r1, r2, r3]; rfl
            case ht =>
              intro hb
              try simp only [Bool.or_eq_true, Bool.and_eq_true, Bool.or_eq_false_iff, Bool.and_eq_false_iff, decide_eq_true_eq, decide_eq_false_iff_not] at hb
              have hbt91 := hb
              refine AW.exit ?_
              refine AW.region (cfg := cfg) ?_
              iterate 3 (apply aops_step (by decide) rfl; · (intro K hK; simp (disch := first | omega | decide) only [go_sem, f1, f5, f7, f8, f9, o5, q1, q2, q3, r1, r2, r3]; exact hK _))
              refine aops_nil ?_
              refine ⟨_, _, ?_, ?_, ?_, rfl, ?_, ?_, ?_, ?_, ?_, ?_, ?_, ?_, ?_, hG⟩ <;> try simp (disch := first | omega | decide) only [go_sem, f1, f5, f7, f8, f9, o5, q1, q2, q3, r1, r2, r3]
              all_goals first | rfl | skip
              all_goals first | assumption | omega | exact mayS_of (by omega) | (exfalso; simp at hb) | trace_state
            case hf =>
              intro hb
              try simp only [Bool.or_eq_true, Bool.and_eq_true, Bool.or_eq_false_iff, Bool.and_eq_false_iff, decide_eq_true_eq, decide_eq_false_iff_not] at hb
              have hbt91 := hb
              refine AW.skip ?_
              refine AW.seq ?_
              refine AW.seq ?_
              refine AW.region (cfg := cfg) ?_
              iterate 3 (apply aops_step (by decide) rfl; · (intro K hK; simp (disch := first | omega | decide) only [go_sem, f1, f5, f7, f8, f9, o5, q1, q2, q3, r1, r2, r3]; exact hK _))
              refine aops_nil ?_
              apply AW.cond
              · simp (disch := first | omega | decide) only [go_sem, f1, f5, f7, f8, f9, o5, q1, q2, q3, r1, r2, r3]; rfl
              case ht =>
                intro hb
                try simp only [Bool.or_eq_true, Bool.and_eq_true, Bool.or_eq_false_iff, Bool.and_eq_false_iff, decide_eq_true_eq, decide_eq_false_iff_not] at hb
                have hbt94 := hb
                refine AW.exit ?_
                refine AW.region (cfg := cfg) ?_
                iterate 3 (apply aops_step (by decide) rfl; · (intro K hK; simp (disch := first | omega | decide) only [go_sem, f1, f5, f7, f8, f9, o5, q1, q2, q3, r1, r2, r3]; exact hK _))
                refine aops_nil ?_
                refine ⟨_, _, ?_, ?_, ?_, rfl, ?_, ?_, ?_, ?_, ?_, ?_, ?_, ?_, ?_, hG⟩ <;> try simp (disch := first | omega | decide) only [go_sem, f1, f5, f7, f8, f9, o5, q1, q2, q3, r1, r2, r3]
                all_goals first | rfl | skip
                all_goals first | assumption | omega | exact mayS_of (by omega) | (exfalso; simp at hb) | trace_state
              case hf =>
                intro hb
                try simp only [Bool.or_eq_true, Bool.and_eq_true, Bool.or_eq_false_iff, Bool.and_eq_false_iff, decide_eq_true_eq, decide_eq_false_iff_not] at hb
                have hbt94 := hb
                refine AW.skip ?_
                refine AW.seq ?_
                obtain ⟨v1, v2, v3, v4, v5, v6⟩ := grant_ok mo0 hbt91 hbt94
                refine AW.region (cfg := cfg) ?_
                apply aops_step (by decide) rfl
                · intro K hK
                  simp (disch := first | omega | decide) only [go_sem, f1, f5, f7, f8, f9, o5, q1, q2, q3, r1, r2, r3, v1, v2, v3, v4, act_load_t ti56, List.map]
                  first | rw [mwp_load_bs (by simp (disch := first | omega | decide) only [go_sem, f1, f5, f7, f8, f9, o5, q1, q2, q3, r1, r2, r3, v1, v2, v3, v4]; rfl) (by simp)] | rw [mwp_load_b1 (by simp (disch := first | omega | decide) only [go_sem, f1, f5, f7, f8, f9, o5, q1, q2, q3, r1, r2, r3, v1, v2, v3, v4]; rfl) (by rfl)] | rw [mwp_aLoad_map (by simp (disch := first | omega | decide) only [go_sem, f1, f5, f7, f8, f9, o5, q1, q2, q3, r1, r2, r3, v1, v2, v3, v4]; rfl) (by first | omega | (simp; omega)) (fun _ => rfl)] | rw [mwp_aLoad_e1 (by simp (disch := first | omega | decide) only [go_sem, f1, f5, f7, f8, f9, o5, q1, q2, q3, r1, r2, r3, v1, v2, v3, v4]; rfl) (by simp) rfl] | skip
                  exact hK _
                iterate 1 (apply aops_step (by decide) rfl; · (intro K hK; simp (disch := first | omega | decide) only [go_sem, f1, f5, f7, f8, f9, o5, q1, q2, q3, r1, r2, r3, v1, v2, v3, v4]; exact hK _))
                apply aops_step (by decide) rfl
                · intro K hK
                  simp (disch := first | omega | decide) only [go_sem, f1, f5, f7, f8, f9, o5, q1, q2, q3, r1, r2, r3, v1, v2, v3, v4, act_call, List.map]
                  apply mwp_call_r rfl rfl rfl
                  · intro Q hQ
                    simp (disch := first | omega | decide) only [go_sem, f1, f5, f7, f8, f9, o5, q1, q2, q3, r1, r2, r3, v1, v2, v3, v4, peekL]
                    first | exact hQ | (rw [peek_own (by simp (disch := first | omega | decide) only [go_sem, f1, f5, f7, f8, f9, o5, q1, q2, q3, r1, r2, r3, v1, v2, v3, v4, peekL]; rfl)]; exact hQ) | (rw [peek_own (by simp (disch := first | omega | decide) only [go_sem, f1, f5, f7, f8, f9, o5, q1, q2, q3, r1, r2, r3, v1, v2, v3, v4, peekL]; rfl)]; simp (disch := first | omega | decide) only [go_sem, f1, f5, f7, f8, f9, o5, q1, q2, q3, r1, r2, r3, v1, v2, v3, v4, peekL]; rw [peek_own (by simp (disch := first | omega | decide) only [go_sem, f1, f5, f7, f8, f9, o5, q1, q2, q3, r1, r2, r3, v1, v2, v3, v4, peekL]; rfl)]; exact hQ) | (rw [peek_own (by simp (disch := first | omega | decide) only [go_sem, f1, f5, f7, f8, f9, o5, q1, q2, q3, r1, r2, r3, v1, v2, v3, v4, peekL]; rfl)]; simp (disch := first | omega | decide) only [go_sem, f1, f5, f7, f8, f9, o5, q1, q2, q3, r1, r2, r3, v1, v2, v3, v4, peekL]; exact hQ)
                  · exact good_Grant _ _ _ (by omega) (by omega) (by omega)
                  · simp [-List.map_take, -List.map_drop, noPtrL, noPtr, noPtrL_bsl, noPtrL_map, sub]
                  · simp (disch := first | omega | decide) only [go_sem, f1, f5, f7, f8, f9, o5, q1, q2, q3, r1, r2, r3, v1, v2, v3, v4]
                    exact hK _
                iterate 3 (apply aops_step (by decide) rfl; · (intro K hK; simp (disch := first | omega | decide) only [go_sem, f1, f5, f7, f8, f9, o5, q1, q2, q3, r1, r2, r3, v1, v2, v3, v4]; exact hK _))
                apply aops_step (by decide) rfl
                · intro K hK
                  simp (disch := first | omega | decide) only [go_sem, f1, f5, f7, f8, f9, o5, q1, q2, q3, r1, r2, r3, v1, v2, v3, v4, act_alloc_t ti56, List.map]
                  exact hK _
                apply aops_step0 rfl
                · intro K hK
                  simp (disch := first | omega | decide) only [go_sem, f1, f5, f7, f8, f9, o5, q1, q2, q3, r1, r2, r3, v1, v2, v3, v4, act_store_t ti56, List.map]
                  first | rw [mwp_store_c (by simp (disch := first | omega | decide) only [go_sem, f1, f5, f7, f8, f9, o5, q1, q2, q3, r1, r2, r3, v1, v2, v3, v4]; rfl) (by rfl) (by rfl) (by rfl) (by simp)] | rw [mwp_aStore_map (by simp (disch := first | omega | decide) only [go_sem, f1, f5, f7, f8, f9, o5, q1, q2, q3, r1, r2, r3, v1, v2, v3, v4]; rfl) (by first | omega | (simp; omega)) (fun _ => rfl) rfl rfl (fun _ => rfl)] | skip
                  try simp only [setAt, cellsL, cellsOf_agg, cellsOf_base, List.map_cons, List.map_nil, List.set_cons_zero, List.set_cons_succ, Nat.reduceAdd, Nat.zero_add]
                  exact hK _
                iterate 1 (apply aops_step (by decide) rfl; · (intro K hK; simp (disch := first | omega | decide) only [go_sem, f1, f5, f7, f8, f9, o5, q1, q2, q3, r1, r2, r3, v1, v2, v3, v4]; exact hK _))
                refine aops_nil ?_
                refine AW.seq ?_
                refine AW.seq ?_
                refine AW.region (cfg := cfg) ?_
                iterate 3 (apply aops_step (by decide) rfl; · (intro K hK; simp (disch := first | omega | decide) only [go_sem, f1, f5, f7, f8, f9, o5, q1, q2, q3, r1, r2, r3, v1, v2, v3, v4]; exact hK _))
                apply aops_merge' (by decide) (by first | exact want_of (d := 103) rfl (by simp (disch := first | omega | decide) only [go_sem, f1, f5, f7, f8, f9, o5, q1, q2, q3, r1, r2, r3, v1, v2, v3, v4, opn_cond]; rfl) | exact want_of_cond (d := 103) rfl (by simp (disch := first | omega | decide) only [go_sem, f1, f5, f7, f8, f9, o5, q1, q2, q3, r1, r2, r3, v1, v2, v3, v4, opn_cond]; rfl))
                · intro hc K hK
                  have hc2 := hc
                  simp only [beq_iff_eq, decide_eq_true_eq, decide_eq_false_iff_not, Bool.or_eq_true, Bool.and_eq_true, Bool.or_eq_false_iff, Bool.and_eq_false_iff] at hc2
                  simp (disch := first | omega | decide) only [go_sem, f1, f5, f7, f8, f9, o5, q1, q2, q3, r1, r2, r3, v1, v2, v3, v4, opn_cond, hc, if_true]
                  exact hK _
                apply aops_merge' (by decide) (by first | exact want_of (d := 103) rfl (by simp (disch := first | omega | decide) only [go_sem, f1, f5, f7, f8, f9, o5, q1, q2, q3, r1, r2, r3, v1, v2, v3, v4, opn_cond]; rfl) | exact want_of_cond (d := 103) rfl (by simp (disch := first | omega | decide) only [go_sem, f1, f5, f7, f8, f9, o5, q1, q2, q3, r1, r2, r3, v1, v2, v3, v4, opn_cond]; rfl))
                · intro hc K hK
                  have hc2 := hc
                  simp only [beq_iff_eq, decide_eq_true_eq, decide_eq_false_iff_not, Bool.or_eq_true, Bool.and_eq_true, Bool.or_eq_false_iff, Bool.and_eq_false_iff] at hc2
                  simp (disch := first | omega | decide) only [go_sem, f1, f5, f7, f8, f9, o5, q1, q2, q3, r1, r2, r3, v1, v2, v3, v4, opn_cond, hc, if_true]
                  exact hK _
                iterate 1 (apply aops_step (by decide) rfl; · (intro K hK; simp (disch := first | omega | decide) only [go_sem, f1, f5, f7, f8, f9, o5, q1, q2, q3, r1, r2, r3, v1, v2, v3, v4]; exact hK _))
                refine aops_nil ?_
                apply AW.cond
                · simp (disch := first | omega | decide) only [go_sem, f1, f5, f7, f8, f9, o5, q1, q2, q3, r1, r2, r3, v1, v2, v3, v4]; rfl
                case ht =>
                  intro hb
                  try simp only [Bool.or_eq_true, Bool.and_eq_true, Bool.or_eq_false_iff, Bool.and_eq_false_iff, decide_eq_true_eq, decide_eq_false_iff_not] at hb
                  have hbt106 := hb
                  refine AW.seq ?_
                  refine AW.region (cfg := cfg) ?_
                  iterate 1 (apply aops_step (by decide) rfl; · (intro K hK; simp (disch := first | omega | decide) only [go_sem, f1, f5, f7, f8, f9, o5, q1, q2, q3, r1, r2, r3, v1, v2, v3, v4]; exact hK _))
                  refine aops_nil ?_
                  refine AW.ret ?_
                  refine ⟨.inr rfl, ?_⟩
                  refine leaves_tmp1 4 rfl ?_ (by first | rfl | exact hG)
                  simp (disch := first | omega | decide) only [go_sem, f1, f5, f7, f8, f9, o5, q1, q2, q3, r1, r2, r3, v1, v2, v3, v4]
                  all_goals first | done | (exfalso; simp at hb; done) | (exfalso; omega) | (exfalso; simp at hb; omega) | trace_state
                case hf =>
                  intro hb
                  try simp only [Bool.or_eq_true, Bool.and_eq_true, Bool.or_eq_false_iff, Bool.and_eq_false_iff, decide_eq_true_eq, decide_eq_false_iff_not] at hb
                  have hbt106 := hb
                  refine AW.skip ?_
                  refine AW.seq ?_
                  refine AW.region (cfg := cfg) ?_
                  apply aops_step (by decide) rfl
                  · intro K hK
                    simp (disch := first | omega | decide) only [go_sem, f1, f5, f7, f8, f9, o5, q1, q2, q3, r1, r2, r3, v1, v2, v3, v4, act_load_t ti56, List.map]
                    first | rw [mwp_load_bs (by simp (disch := first | omega | decide) only [go_sem, f1, f5, f7, f8, f9, o5, q1, q2, q3, r1, r2, r3, v1, v2, v3, v4]; rfl) (by simp)] | rw [mwp_load_b1 (by simp (disch := first | omega | decide) only [go_sem, f1, f5, f7, f8, f9, o5, q1, q2, q3, r1, r2, r3, v1, v2, v3, v4]; rfl) (by rfl)] | rw [mwp_aLoad_map (by simp (disch := first | omega | decide) only [go_sem, f1, f5, f7, f8, f9, o5, q1, q2, q3, r1, r2, r3, v1, v2, v3, v4]; rfl) (by first | omega | (simp; omega)) (fun _ => rfl)] | rw [mwp_aLoad_e1 (by simp (disch := first | omega | decide) only [go_sem, f1, f5, f7, f8, f9, o5, q1, q2, q3, r1, r2, r3, v1, v2, v3, v4]; rfl) (by simp) rfl] | skip
                    exact hK _
                  apply aops_step0 rfl
                  · intro K hK
                    simp (disch := first | omega | decide) only [go_sem, f1, f5, f7, f8, f9, o5, q1, q2, q3, r1, r2, r3, v1, v2, v3, v4, act_store_t ti56, List.map]
                    first | rw [mwp_store_c (by simp (disch := first | omega | decide) only [go_sem, f1, f5, f7, f8, f9, o5, q1, q2, q3, r1, r2, r3, v1, v2, v3, v4]; rfl) (by rfl) (by rfl) (by rfl) (by simp)] | rw [mwp_aStore_map (by simp (disch := first | omega | decide) only [go_sem, f1, f5, f7, f8, f9, o5, q1, q2, q3, r1, r2, r3, v1, v2, v3, v4]; rfl) (by first | omega | (simp; omega)) (fun _ => rfl) rfl rfl (fun _ => rfl)] | skip
                    try simp only [setAt, cellsL, cellsOf_agg, cellsOf_base, List.map_cons, List.map_nil, List.set_cons_zero, List.set_cons_succ, Nat.reduceAdd, Nat.zero_add]
                    exact hK _
                  refine aops_nil ?_
                  refine AW.region (cfg := cfg) ?_
                  iterate 2 (apply aops_step (by decide) rfl; · (intro K hK; simp (disch := first | omega | decide) only [go_sem, f1, f5, f7, f8, f9, o5, q1, q2, q3, r1, r2, r3, v1, v2, v3, v4]; exact hK _))
                  refine aops_nil ?_
                  refine AW.region (cfg := cfg) ?_
                  iterate 3 (apply aops_step (by decide) rfl; · (intro K hK; simp (disch := first | omega | decide) only [go_sem, f1, f5, f7, f8, f9, o5, q1, q2, q3, r1, r2, r3, v1, v2, v3, v4]; exact hK _))
                  refine aops_nil ?_
                  refine ⟨_, _, ?_, ?_, ?_, rfl, ?_, ?_, ?_, ?_, ?_, ?_, ?_, ?_, ?_, hG⟩ <;> try simp (disch := first | omega | decide) only [go_sem, f1, f5, f7, f8, f9, o5, q1, q2, q3, r1, r2, r3, v1, v2, v3, v4]
                  all_goals first | rfl | skip
                  all_goals first | assumption | omega | exact mayS_of (by omega) | (exfalso; simp at hb) | trace_state
          case hf =>
            intro hb
            try simp only [Bool.or_eq_true, Bool.and_eq_true, Bool.or_eq_false_iff, Bool.and_eq_false_iff, decide_eq_true_eq, decide_eq_false_iff_not] at hb
            have hbt83 := hb
            refine AW.seq ?_
            refine AW.region (cfg := cfg) ?_
            apply aops_step (by decide) rfl
            · intro K hK
              simp (disch := first | omega | decide) only [go_sem, f1, f5, f7, f8, f9, o5, q1, q2, q3, r1, r2, r3, act_load_t ti56, List.map]
              first | rw [mwp_load_bs (by simp (disch := first | omega | decide) only [go_sem, f1, f5, f7, f8, f9, o5, q1, q2, q3, r1, r2, r3]; rfl) (by simp)] | rw [mwp_load_b1 (by simp (disch := first | omega | decide) only [go_sem, f1, f5, f7, f8, f9, o5, q1, q2, q3, r1, r2, r3]; rfl) (by rfl)] | rw [mwp_aLoad_map (by simp (disch := first | omega | decide) only [go_sem, f1, f5, f7, f8, f9, o5, q1, q2, q3, r1, r2, r3]; rfl) (by first | omega | (simp; omega)) (fun _ => rfl)] | rw [mwp_aLoad_e1 (by simp (disch := first | omega | decide) only [go_sem, f1, f5, f7, f8, f9, o5, q1, q2, q3, r1, r2, r3]; rfl) (by simp) rfl] | skip
              exact hK _
            apply aops_step (by decide) rfl
            · intro K hK
              simp (disch := first | omega | decide) only [go_sem, f1, f5, f7, f8, f9, o5, q1, q2, q3, r1, r2, r3, act_call, List.map]
              apply mwp_call_r rfl rfl rfl
              · intro Q hQ
                simp (disch := first | omega | decide) only [go_sem, f1, f5, f7, f8, f9, o5, q1, q2, q3, r1, r2, r3, peekL]
                first | exact hQ | (rw [peek_own (by simp (disch := first | omega | decide) only [go_sem, f1, f5, f7, f8, f9, o5, q1, q2, q3, r1, r2, r3, peekL]; rfl)]; exact hQ) | (rw [peek_own (by simp (disch := first | omega | decide) only [go_sem, f1, f5, f7, f8, f9, o5, q1, q2, q3, r1, r2, r3, peekL]; rfl)]; simp (disch := first | omega | decide) only [go_sem, f1, f5, f7, f8, f9, o5, q1, q2, q3, r1, r2, r3, peekL]; rw [peek_own (by simp (disch := first | omega | decide) only [go_sem, f1, f5, f7, f8, f9, o5, q1, q2, q3, r1, r2, r3, peekL]; rfl)]; exact hQ) | (rw [peek_own (by simp (disch := first | omega | decide) only [go_sem, f1, f5, f7, f8, f9, o5, q1, q2, q3, r1, r2, r3, peekL]; rfl)]; simp (disch := first | omega | decide) only [go_sem, f1, f5, f7, f8, f9, o5, q1, q2, q3, r1, r2, r3, peekL]; exact hQ)
              · exact good_Take _ _ (by omega) (by omega)
              · simp [-List.map_take, -List.map_drop, noPtrL, noPtr, noPtrL_bsl, noPtrL_map, sub]
              · simp (disch := first | omega | decide) only [go_sem, f1, f5, f7, f8, f9, o5, q1, q2, q3, r1, r2, r3]
                exact hK _
            iterate 4 (apply aops_step (by decide) rfl; · (intro K hK; simp (disch := first | omega | decide) only [go_sem, f1, f5, f7, f8, f9, o5, q1, q2, q3, r1, r2, r3]; exact hK _))
            apply aops_step (by decide) rfl
            · intro K hK
              simp (disch := first | omega | decide) only [go_sem, f1, f5, f7, f8, f9, o5, q1, q2, q3, r1, r2, r3, act_alloc_t ti56, List.map]
              exact hK _
            iterate 1 (apply aops_step (by decide) rfl; · (intro K hK; simp (disch := first | omega | decide) only [go_sem, f1, f5, f7, f8, f9, o5, q1, q2, q3, r1, r2, r3]; exact hK _))
            apply aops_step0 rfl
            · intro K hK
              simp (disch := first | omega | decide) only [go_sem, f1, f5, f7, f8, f9, o5, q1, q2, q3, r1, r2, r3, act_store_t ti56, List.map]
              first | rw [mwp_store_c (by simp (disch := first | omega | decide) only [go_sem, f1, f5, f7, f8, f9, o5, q1, q2, q3, r1, r2, r3]; rfl) (by rfl) (by rfl) (by rfl) (by simp)] | rw [mwp_aStore_map (by simp (disch := first | omega | decide) only [go_sem, f1, f5, f7, f8, f9, o5, q1, q2, q3, r1, r2, r3]; rfl) (by first | omega | (simp; omega)) (fun _ => rfl) rfl rfl (fun _ => rfl)] | skip
              try simp only [setAt, cellsL, cellsOf_agg, cellsOf_base, List.map_cons, List.map_nil, List.set_cons_zero, List.set_cons_succ, Nat.reduceAdd, Nat.zero_add]
              exact hK _
            iterate 1 (apply aops_step (by decide) rfl; · (intro K hK; simp (disch := first | omega | decide) only [go_sem, f1, f5, f7, f8, f9, o5, q1, q2, q3, r1, r2, r3]; exact hK _))
            refine aops_nil ?_
            refine AW.seq ?_
            refine AW.seq ?_
            refine AW.region (cfg := cfg) ?_
            iterate 2 (apply aops_step (by decide) rfl; · (intro K hK; simp (disch := first | omega | decide) only [go_sem, f1, f5, f7, f8, f9, o5, q1, q2, q3, r1, r2, r3]; exact hK _))
            refine aops_nil ?_
            apply AW.cond
            · simp (disch := first | omega | decide) only [go_sem, f1, f5, f7, f8, f9, o5, q1, q2, q3, r1, r2, r3]; rfl
            case ht =>
              intro hb
              try simp only [Bool.or_eq_true, Bool.and_eq_true, Bool.or_eq_false_iff, Bool.and_eq_false_iff, decide_eq_true_eq, decide_eq_false_iff_not] at hb
              have hbt58 := hb
              refine AW.exit ?_
              refine AW.region (cfg := cfg) ?_
              iterate 3 (apply aops_step (by decide) rfl; · (intro K hK; simp (disch := first | omega | decide) only [go_sem, f1, f5, f7, f8, f9, o5, q1, q2, q3, r1, r2, r3]; exact hK _))
              refine aops_nil ?_
              refine ⟨_, _, ?_, ?_, ?_, rfl, ?_, ?_, ?_, ?_, ?_, ?_, ?_, ?_, ?_, hG⟩ <;> try simp (disch := first | omega | decide) only [go_sem, f1, f5, f7, f8, f9, o5, q1, q2, q3, r1, r2, r3]
              all_goals first | rfl | skip
              all_goals first | assumption | omega | exact mayS_of (by omega) | (exfalso; simp at hb) | trace_state
            case hf =>
              intro hb
              try simp only [Bool.or_eq_true, Bool.and_eq_true, Bool.or_eq_false_iff, Bool.and_eq_false_iff, decide_eq_true_eq, decide_eq_false_iff_not] at hb
              have hbt58 := hb
              refine AW.skip ?_
              refine AW.seq ?_
              refine AW.seq ?_
              obtain ⟨v1, v2, v3, v4, v5⟩ := take_ok mo0 hbt58
              refine AW.region (cfg := cfg) ?_
              iterate 3 (apply aops_step (by decide) rfl; · (intro K hK; simp (disch := first | omega | decide) only [go_sem, f1, f5, f7, f8, f9, o5, q1, q2, q3, r1, r2, r3, v1, v2, v3, v4]; exact hK _))
              apply aops_merge' (by decide) (by first | exact want_of (d := 61) rfl (by simp (disch := first | omega | decide) only [go_sem, f1, f5, f7, f8, f9, o5, q1, q2, q3, r1, r2, r3, v1, v2, v3, v4, opn_cond]; rfl) | exact want_of_cond (d := 61) rfl (by simp (disch := first | omega | decide) only [go_sem, f1, f5, f7, f8, f9, o5, q1, q2, q3, r1, r2, r3, v1, v2, v3, v4, opn_cond]; rfl))
              · intro hc K hK
                have hc2 := hc
                simp only [beq_iff_eq, decide_eq_true_eq, decide_eq_false_iff_not, Bool.or_eq_true, Bool.and_eq_true, Bool.or_eq_false_iff, Bool.and_eq_false_iff] at hc2
                simp (disch := first | omega | decide) only [go_sem, f1, f5, f7, f8, f9, o5, q1, q2, q3, r1, r2, r3, v1, v2, v3, v4, opn_cond, hc, if_true]
                exact hK _
              apply aops_merge' (by decide) (by first | exact want_of (d := 61) rfl (by simp (disch := first | omega | decide) only [go_sem, f1, f5, f7, f8, f9, o5, q1, q2, q3, r1, r2, r3, v1, v2, v3, v4, opn_cond]; rfl) | exact want_of_cond (d := 61) rfl (by simp (disch := first | omega | decide) only [go_sem, f1, f5, f7, f8, f9, o5, q1, q2, q3, r1, r2, r3, v1, v2, v3, v4, opn_cond]; rfl))
              · intro hc K hK
                have hc2 := hc
                simp only [beq_iff_eq, decide_eq_true_eq, decide_eq_false_iff_not, Bool.or_eq_true, Bool.and_eq_true, Bool.or_eq_false_iff, Bool.and_eq_false_iff] at hc2
                simp (disch := first | omega | decide) only [go_sem, f1, f5, f7, f8, f9, o5, q1, q2, q3, r1, r2, r3, v1, v2, v3, v4, opn_cond, hc, if_true]
                exact hK _
              apply aops_merge' (by decide) (by first | exact want_of (d := 61) rfl (by simp (disch := first | omega | decide) only [go_sem, f1, f5, f7, f8, f9, o5, q1, q2, q3, r1, r2, r3, v1, v2, v3, v4, opn_cond]; rfl) | exact want_of_cond (d := 61) rfl (by simp (disch := first | omega | decide) only [go_sem, f1, f5, f7, f8, f9, o5, q1, q2, q3, r1, r2, r3, v1, v2, v3, v4, opn_cond]; rfl))
              · intro hc K hK
                have hc2 := hc
                simp only [beq_iff_eq, decide_eq_true_eq, decide_eq_false_iff_not, Bool.or_eq_true, Bool.and_eq_true, Bool.or_eq_false_iff, Bool.and_eq_false_iff] at hc2
                simp (disch := first | omega | decide) only [go_sem, f1, f5, f7, f8, f9, o5, q1, q2, q3, r1, r2, r3, v1, v2, v3, v4, opn_cond, hc, if_true]
                exact hK _
              iterate 2 (apply aops_step (by decide) rfl; · (intro K hK; simp (disch := first | omega | decide) only [go_sem, f1, f5, f7, f8, f9, o5, q1, q2, q3, r1, r2, r3, v1, v2, v3, v4]; exact hK _))
              apply aops_merge' (by decide) (by first | exact want_of (d := 66) rfl (by simp (disch := first | omega | decide) only [go_sem, f1, f5, f7, f8, f9, o5, q1, q2, q3, r1, r2, r3, v1, v2, v3, v4, opn_cond]; rfl) | exact want_of_cond (d := 66) rfl (by simp (disch := first | omega | decide) only [go_sem, f1, f5, f7, f8, f9, o5, q1, q2, q3, r1, r2, r3, v1, v2, v3, v4, opn_cond]; rfl))
              · intro hc K hK
                have hc2 := hc
                simp only [beq_iff_eq, decide_eq_true_eq, decide_eq_false_iff_not, Bool.or_eq_true, Bool.and_eq_true, Bool.or_eq_false_iff, Bool.and_eq_false_iff] at hc2
                simp (disch := first | omega | decide) only [go_sem, f1, f5, f7, f8, f9, o5, q1, q2, q3, r1, r2, r3, v1, v2, v3, v4, opn_cond, hc, if_true]
                exact hK _
              apply aops_merge' (by decide) (by first | exact want_of (d := 66) rfl (by simp (disch := first | omega | decide) only [go_sem, f1, f5, f7, f8, f9, o5, q1, q2, q3, r1, r2, r3, v1, v2, v3, v4, opn_cond]; rfl) | exact want_of_cond (d := 66) rfl (by simp (disch := first | omega | decide) only [go_sem, f1, f5, f7, f8, f9, o5, q1, q2, q3, r1, r2, r3, v1, v2, v3, v4, opn_cond]; rfl))
              · intro hc K hK
                have hc2 := hc
                simp only [beq_iff_eq, decide_eq_true_eq, decide_eq_false_iff_not, Bool.or_eq_true, Bool.and_eq_true, Bool.or_eq_false_iff, Bool.and_eq_false_iff] at hc2
                simp (disch := first | omega | decide) only [go_sem, f1, f5, f7, f8, f9, o5, q1, q2, q3, r1, r2, r3, v1, v2, v3, v4, opn_cond, hc, if_true]
                exact hK _
              apply aops_merge' (by decide) (by first | exact want_of (d := 66) rfl (by simp (disch := first | omega | decide) only [go_sem, f1, f5, f7, f8, f9, o5, q1, q2, q3, r1, r2, r3, v1, v2, v3, v4, opn_cond]; rfl) | exact want_of_cond (d := 66) rfl (by simp (disch := first | omega | decide) only [go_sem, f1, f5, f7, f8, f9, o5, q1, q2, q3, r1, r2, r3, v1, v2, v3, v4, opn_cond]; rfl))
              · intro hc K hK
                have hc2 := hc
                simp only [beq_iff_eq, decide_eq_true_eq, decide_eq_false_iff_not, Bool.or_eq_true, Bool.and_eq_true, Bool.or_eq_false_iff, Bool.and_eq_false_iff] at hc2
                simp (disch := first | omega | decide) only [go_sem, f1, f5, f7, f8, f9, o5, q1, q2, q3, r1, r2, r3, v1, v2, v3, v4, opn_cond, hc, if_true]
                exact hK _
              iterate 1 (apply aops_step (by decide) rfl; · (intro K hK; simp (disch := first | omega | decide) only [go_sem, f1, f5, f7, f8, f9, o5, q1, q2, q3, r1, r2, r3, v1, v2, v3, v4]; exact hK _))
              refine aops_nil ?_
              apply AW.cond
              · simp (disch := first | omega | decide) only [go_sem, f1, f5, f7, f8, f9, o5, q1, q2, q3, r1, r2, r3, v1, v2, v3, v4]; rfl
              case ht =>
                intro hb
                try simp only [Bool.or_eq_true, Bool.and_eq_true, Bool.or_eq_false_iff, Bool.and_eq_false_iff, decide_eq_true_eq, decide_eq_false_iff_not] at hb
                have hbt70 := hb
                refine AW.seq ?_
                refine AW.region (cfg := cfg) ?_
                iterate 1 (apply aops_step (by decide) rfl; · (intro K hK; simp (disch := first | omega | decide) only [go_sem, f1, f5, f7, f8, f9, o5, q1, q2, q3, r1, r2, r3, v1, v2, v3, v4]; exact hK _))
                refine aops_nil ?_
                refine AW.ret ?_
                refine ⟨.inr rfl, ?_⟩
                refine leaves_tmp1 4 rfl ?_ (by first | rfl | exact hG)
                simp (disch := first | omega | decide) only [go_sem, f1, f5, f7, f8, f9, o5, q1, q2, q3, r1, r2, r3, v1, v2, v3, v4]
                all_goals first | done | (exfalso; simp at hb; done) | (exfalso; omega) | (exfalso; simp at hb; omega) | trace_state
              case hf =>
                intro hb
                try simp only [Bool.or_eq_true, Bool.and_eq_true, Bool.or_eq_false_iff, Bool.and_eq_false_iff, decide_eq_true_eq, decide_eq_false_iff_not] at hb
                have hbt70 := hb
                refine AW.skip ?_
                refine AW.seq ?_
                refine AW.region (cfg := cfg) ?_
                apply aops_step (by decide) rfl
                · intro K hK
                  simp (disch := first | omega | decide) only [go_sem, f1, f5, f7, f8, f9, o5, q1, q2, q3, r1, r2, r3, v1, v2, v3, v4, act_load_t ti56, List.map]
                  first | rw [mwp_load_bs (by simp (disch := first | omega | decide) only [go_sem, f1, f5, f7, f8, f9, o5, q1, q2, q3, r1, r2, r3, v1, v2, v3, v4]; rfl) (by simp)] | rw [mwp_load_b1 (by simp (disch := first | omega | decide) only [go_sem, f1, f5, f7, f8, f9, o5, q1, q2, q3, r1, r2, r3, v1, v2, v3, v4]; rfl) (by rfl)] | rw [mwp_aLoad_map (by simp (disch := first | omega | decide) only [go_sem, f1, f5, f7, f8, f9, o5, q1, q2, q3, r1, r2, r3, v1, v2, v3, v4]; rfl) (by first | omega | (simp; omega)) (fun _ => rfl)] | rw [mwp_aLoad_e1 (by simp (disch := first | omega | decide) only [go_sem, f1, f5, f7, f8, f9, o5, q1, q2, q3, r1, r2, r3, v1, v2, v3, v4]; rfl) (by simp) rfl] | skip
                  exact hK _
                apply aops_step0 rfl
                · intro K hK
                  simp (disch := first | omega | decide) only [go_sem, f1, f5, f7, f8, f9, o5, q1, q2, q3, r1, r2, r3, v1, v2, v3, v4, act_store_t ti56, List.map]
                  first | rw [mwp_store_c (by simp (disch := first | omega | decide) only [go_sem, f1, f5, f7, f8, f9, o5, q1, q2, q3, r1, r2, r3, v1, v2, v3, v4]; rfl) (by rfl) (by rfl) (by rfl) (by simp)] | rw [mwp_aStore_map (by simp (disch := first | omega | decide) only [go_sem, f1, f5, f7, f8, f9, o5, q1, q2, q3, r1, r2, r3, v1, v2, v3, v4]; rfl) (by first | omega | (simp; omega)) (fun _ => rfl) rfl rfl (fun _ => rfl)] | skip
                  try simp only [setAt, cellsL, cellsOf_agg, cellsOf_base, List.map_cons, List.map_nil, List.set_cons_zero, List.set_cons_succ, Nat.reduceAdd, Nat.zero_add]
                  exact hK _
                refine aops_nil ?_
                refine AW.region (cfg := cfg) ?_
                iterate 2 (apply aops_step (by decide) rfl; · (intro K hK; simp (disch := first | omega | decide) only [go_sem, f1, f5, f7, f8, f9, o5, q1, q2, q3, r1, r2, r3, v1, v2, v3, v4]; exact hK _))
                refine aops_nil ?_
                refine AW.region (cfg := cfg) ?_
                iterate 3 (apply aops_step (by decide) rfl; · (intro K hK; simp (disch := first | omega | decide) only [go_sem, f1, f5, f7, f8, f9, o5, q1, q2, q3, r1, r2, r3, v1, v2, v3, v4]; exact hK _))
                refine aops_nil ?_
                refine ⟨_, _, ?_, ?_, ?_, rfl, ?_, ?_, ?_, ?_, ?_, ?_, ?_, ?_, ?_, hG⟩ <;> try simp (disch := first | omega | decide) only [go_sem, f1, f5, f7, f8, f9, o5, q1, q2, q3, r1, r2, r3, v1, v2, v3, v4]
                all_goals first | rfl | skip
                all_goals first | assumption | omega | exact mayS_of (by omega) | (exfalso; simp at hb) | trace_state
      · clear f0 f1 hG
        rintro σ ⟨s, m, x, gr, la, rfl, f1, f5, o5, f7, f8, f9, mo0, mo1, mo2, hG⟩
        obtain ⟨g5, o5⟩ : ∃ g, m.objs (.tmp 5 0) = (g, .box [.v (i64 x), .v (i64 gr)]) := ⟨_, Prod.ext rfl o5⟩
        rw [o5] at f5
        refine AW.seq ?_
        refine AW.seq ?_
        refine AW.region (cfg := cfg) ?_
        iterate 4 (apply aops_step (by decide) rfl; · (intro K hK; simp (disch := first | omega | decide) only [go_sem, f1, f5, f7, f8, f9, o5, q1, q2, q3, List.map, List.length_map, aops_len u22]; exact hK _))
        refine aops_nil ?_
        apply AW.cond
        · simp (disch := first | omega | decide) only [go_sem, f1, f5, f7, f8, f9, o5, q1, q2, q3]; rfl
        case ht => intro hb; first | (simp at hb; done) | (simp at hb; omega)
        case hf =>
        intro hb
        have hbt43 := hb
        refine AW.exit ?_
        refine AW.seq ?_
        refine AW.region (cfg := cfg) ?_
        apply aops_step (by decide) rfl
        · intro K hK
          simp (disch := first | omega | decide) only [go_sem, f1, f5, f7, f8, f9, o5, q1, q2, q3, act_call, List.map]
          apply mwp_call_s rfl rfl rfl
          · intro Q hQ
            simp (disch := first | omega | decide) only [go_sem, f1, f5, f7, f8, f9, o5, q1, q2, q3, peekL]
            first | exact hQ | (rw [peek_own (by simp (disch := first | omega | decide) only [go_sem, f1, f5, f7, f8, f9, o5, q1, q2, q3, peekL]; rfl)]; exact hQ) | (rw [peek_own (by simp (disch := first | omega | decide) only [go_sem, f1, f5, f7, f8, f9, o5, q1, q2, q3, peekL]; rfl)]; simp (disch := first | omega | decide) only [go_sem, f1, f5, f7, f8, f9, o5, q1, q2, q3, peekL]; rw [peek_own (by simp (disch := first | omega | decide) only [go_sem, f1, f5, f7, f8, f9, o5, q1, q2, q3, peekL]; rfl)]; exact hQ) | (rw [peek_own (by simp (disch := first | omega | decide) only [go_sem, f1, f5, f7, f8, f9, o5, q1, q2, q3, peekL]; rfl)]; simp (disch := first | omega | decide) only [go_sem, f1, f5, f7, f8, f9, o5, q1, q2, q3, peekL]; exact hQ)
          · exact good_awake
          · simp [-List.map_take, -List.map_drop, noPtrL, noPtr, noPtrL_bsl, noPtrL_map, sub]
          · rfl
          · exact hK _
        iterate 1 (apply aops_step (by decide) rfl; · (intro K hK; simp (disch := first | omega | decide) only [go_sem, f1, f5, f7, f8, f9, o5, q1, q2, q3]; exact hK _))
        refine aops_nil ?_
        refine AW.ret ?_
        refine ⟨.inr rfl, ?_⟩
        refine leaves_tmp1 4 rfl ?_ (by first | rfl | exact hG)
        simp (disch := first | omega | decide) only [go_sem, f1, f5, f7, f8, f9, o5, q1, q2, q3]
        all_goals first | done | (exfalso; simp at hb; done) | (exfalso; omega) | (exfalso; simp at hb; omega) | trace_state

end Go.Vai.S
