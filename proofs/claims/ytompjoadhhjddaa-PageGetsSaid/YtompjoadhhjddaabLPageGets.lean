import Derived.Test.YtompjoadhhjddaabPage7
namespace Go.Vai.G
open Go.Proofs Go.Vai Go.Vai.L Go.Vai.O Go.Vai.U Go.Vai.Z
set_option linter.unusedSimpArgs false
set_option linter.unusedVariables false

set_option maxHeartbeats 4000000 in
set_option maxRecDepth 100000 in
theorem good_PageGets (nil : Bool) (l : List (BitVec 8)) (hl : l.length ≤ 9223372036854775807) (hz : nil = true → l = []) : Good Try.prog 12 [(.sl 1 nil (bsl l), false)] [] [(.b true, false)] [] := by
  refine good_of_body4 75 Try.func12 rfl rfl rfl (by simp) (by simp) (by simp [noPtrL, noPtr]) (by rfl) ?_
  intro s m ha hr hv hG
  have f0 : s 0 = .v (.sl 1 nil (bsl l)) := ha 0 _ rfl
  clear ha
  refine AW.seq ?_
  refine AW.region (cfg := cfg) ?_
  iterate 1 (apply aops_step (by decide) rfl; · (intro K hK; simp (disch := first | omega | decide) only [go_sem, f0, cellsOf_page, pageEq_refl, blk_all]; exact hK _))
  refine aops_nil ?_
  refine AW.seq ?_
  refine AW.seq ?_
  refine AW.region (cfg := cfg) ?_
  iterate 3 (apply aops_step (by decide) rfl; · (intro K hK; simp (disch := first | omega | decide) only [go_sem, f0, List.map, List.length_map, aops_len u25, cellsOf_page, pageEq_refl, blk_all]; exact hK _))
  refine aops_nil ?_
  apply AW.cond
  · simp (disch := first | omega | decide) only [go_sem, f0, cellsOf_page, pageEq_refl, blk_all]; rfl
  case ht =>
    intro hb
    try simp only [Bool.or_eq_true, Bool.and_eq_true, Bool.or_eq_false_iff, Bool.and_eq_false_iff, decide_eq_true_eq, decide_eq_false_iff_not] at hb
    have hbt11 := hb
    refine AW.seq ?_
    refine AW.region (cfg := cfg) ?_
    apply aops_step (by decide) rfl
    · intro K hK
      simp (disch := first | omega | decide) only [go_sem, f0, act_call, List.map, cellsOf_page, pageEq_refl, blk_all]
      apply mwp_call_s rfl rfl rfl
      · intro Q hQ
        (simp (disch := first | omega | decide) only [go_sem, f0, peekL, reifyL_nil, reifyL_cons, reify_v, cellsOf_page, pageEq_refl, blk_all]; (exact hQ))
      · exact G.good_awake
      · simp [-List.map_take, -List.map_drop, -List.map_append, -List.map_replicate, -List.reduceReplicate, noPtrL, noPtr, noPtrL_bsl, noPtrL_map, sub]
      · rfl
      · exact hK _
    iterate 1 (apply aops_step (by decide) rfl; · (intro K hK; simp (disch := first | omega | decide) only [go_sem, f0, cellsOf_page, pageEq_refl, blk_all]; exact hK _))
    refine aops_nil ?_
    refine AW.ret ?_
    refine ⟨.inr rfl, ?_⟩
    apply Exists.intro
    refine leaves_tmp1 2 rfl ?_ (by rfl)
    simp (disch := first | omega | decide) only [go_sem, f0, cellsOf_page, pageEq_refl, blk_all]
    all_goals first | done | rfl | trace_state
  case hf =>
    intro hb
    try simp only [Bool.or_eq_true, Bool.and_eq_true, Bool.or_eq_false_iff, Bool.and_eq_false_iff, decide_eq_true_eq, decide_eq_false_iff_not] at hb
    have hbt11 := hb
    refine AW.skip ?_
    refine AW.seq ?_
    refine AW.region (cfg := cfg) ?_
    apply aops_step (by decide) rfl
    · intro K hK
      rw [act_bs el25 ti5]
      (simp [-List.map_take, -List.map_drop, -BitVec.toNat_ofInt, -BitVec.ofInt_natCast, -BitVec.toNat_setWidth, -BitVec.toNat_ushiftRight, -BitVec.toNat_umod, -BitVec.toNat_udiv, go_sem, elems_v, cellishAV, Value.oneCell', isAggAV, partsOf, TI.z, TI.mk1, f0]; exact hK _)
    iterate 1 (apply aops_step (by decide) rfl; · (intro K hK; simp (disch := first | omega | decide) only [go_sem, f0, cellsOf_page, pageEq_refl, blk_all]; exact hK _))
    apply aops_step (by decide) rfl
    · intro K hK
      simp (disch := first | omega | decide) only [go_sem, f0, List.map, cellsOf_page, pageEq_refl, blk_all]
      apply mwp_append2 el25 ti5 u25
      case hpk => intro Q hQ; exact hQ
      case hs' => rfl
      case ho => simp (disch := first | omega | decide) only [go_sem, f0, cellsOf_page, pageEq_refl, blk_all]; rfl
      case hsz => rfl
      case hhi => (simp; done)
      case hb => (simp only [List.length_cons, List.length_nil, List.length_map, Nat.zero_add, Nat.reduceAdd, roomB]; omega)
      case hy => (simp [sub, cellsOf]; done)
      case k => (try simp only [List.nil_append, ← List.map_append, Bool.false_and]); exact hK _
    apply aops_step (by decide) rfl
    · intro K hK
      simp (disch := first | omega | decide) only [go_sem, f0, act_call, List.map, cellsOf_page, pageEq_refl, blk_all]
      apply mwp_call_r rfl rfl rfl
      · intro Q hQ
        (simp (disch := first | omega | decide) only [go_sem, f0, peekL, reifyL_nil, reifyL_cons, reify_v, cellsOf_page, pageEq_refl, blk_all]; ((((rw [mwp_reify_own (by simp (disch := first | omega | decide) only [go_sem, f0, peekL, reifyL_nil, reifyL_cons, reify_v, cellsOf_page, pageEq_refl, blk_all]; rfl)]); (try rw [sub_full (by (simp; done))])); exact hQ)))
      · exact good_GetP false l (by omega) (by simp)
      · simp [-List.map_take, -List.map_drop, -List.map_append, -List.map_replicate, -List.reduceReplicate, noPtrL, noPtr, noPtrL_bsl, noPtrL_map, sub]
      · simp (disch := first | omega | decide) only [go_sem, f0, cellsOf_page, pageEq_refl, blk_all]
        exact hK _
    iterate 3 (apply aops_step (by decide) rfl; · (intro K hK; simp (disch := first | omega | decide) only [go_sem, f0, cellsOf_page, pageEq_refl, blk_all]; exact hK _))
    apply aops_step (by decide) rfl
    · intro K hK
      simp (disch := first | omega | decide) only [go_sem, f0, act_alloc_t ti47, List.map, cellsOf_page, pageEq_refl, blk_all]
      exact hK _
    apply aops_step0 rfl
    · intro K hK
      simp (disch := first | omega | decide) only [go_sem, f0, act_store_t ti47, List.map, cellsOf_page, pageEq_refl, blk_all]
      rw [mwp_store_c (by simp (disch := first | omega | decide) only [go_sem, f0, cellsOf_page, pageEq_refl, blk_all]; rfl) (by rfl) (by rfl) (by rfl) (by simp)]
      try simp only [setAt, cellsL, cellsOf_agg, cellsOf_base, List.map_cons, List.map_nil, List.set_cons_zero, List.set_cons_succ, Nat.reduceAdd, Nat.zero_add, hG]
      exact hK _
    iterate 1 (apply aops_step (by decide) rfl; · (intro K hK; simp (disch := first | omega | decide) only [go_sem, f0, cellsOf_page, pageEq_refl, blk_all]; exact hK _))
    refine aops_nil ?_
    refine AW.seq ?_
    refine AW.region (cfg := cfg) ?_
    iterate 1 (apply aops_step (by decide) rfl; · (intro K hK; simp (disch := first | omega | decide) only [go_sem, f0, cellsOf_page, pageEq_refl, blk_all]; exact hK _))
    apply aops_step (by decide) rfl
    · intro K hK
      simp (disch := first | omega | decide) only [go_sem, f0, act_call, List.map, cellsOf_page, pageEq_refl, blk_all]
      apply mwp_call_r rfl rfl rfl
      · intro Q hQ
        (simp (disch := first | omega | decide) only [go_sem, f0, peekL, reifyL_nil, reifyL_cons, reify_v, cellsOf_page, pageEq_refl, blk_all]; (exact hQ))
      · exact good_refGetP nil l (by omega) hz
      · simp [-List.map_take, -List.map_drop, -List.map_append, -List.map_replicate, -List.reduceReplicate, noPtrL, noPtr, noPtrL_bsl, noPtrL_map, sub]
      · simp (disch := first | omega | decide) only [go_sem, f0, cellsOf_page, pageEq_refl, blk_all]
        exact hK _
    iterate 3 (apply aops_step (by decide) rfl; · (intro K hK; simp (disch := first | omega | decide) only [go_sem, f0, cellsOf_page, pageEq_refl, blk_all]; exact hK _))
    apply aops_step (by decide) rfl
    · intro K hK
      simp (disch := first | omega | decide) only [go_sem, f0, act_alloc_t ti47, List.map, cellsOf_page, pageEq_refl, blk_all]
      exact hK _
    apply aops_step0 rfl
    · intro K hK
      simp (disch := first | omega | decide) only [go_sem, f0, act_store_t ti47, List.map, cellsOf_page, pageEq_refl, blk_all]
      rw [mwp_store_c (by simp (disch := first | omega | decide) only [go_sem, f0, cellsOf_page, pageEq_refl, blk_all]; rfl) (by rfl) (by rfl) (by rfl) (by simp)]
      try simp only [setAt, cellsL, cellsOf_agg, cellsOf_base, List.map_cons, List.map_nil, List.set_cons_zero, List.set_cons_succ, Nat.reduceAdd, Nat.zero_add, hG]
      exact hK _
    iterate 1 (apply aops_step (by decide) rfl; · (intro K hK; simp (disch := first | omega | decide) only [go_sem, f0, cellsOf_page, pageEq_refl, blk_all]; exact hK _))
    refine aops_nil ?_
    refine AW.seq ?_
    refine AW.region (cfg := cfg) ?_
    iterate 4 (apply aops_step (by decide) rfl; · (intro K hK; simp (disch := first | omega | decide) only [go_sem, f0, List.map, List.length_map, aops_len u25, cellsOf_page, pageEq_refl, blk_all]; exact hK _))
    refine aops_nil ?_
    refine AW.seq ?_
    refine AW.seq ?_
    refine AW.region (cfg := cfg) ?_
    iterate 1 (apply aops_step (by decide) rfl; · (intro K hK; simp (disch := first | omega | decide) only [go_sem, f0, cellsOf_page, pageEq_refl, blk_all]; exact hK _))
    refine aops_nil ?_
    refine AW.block ?_
    refine AW.forN (fun k σ => ∃ s m, σ = ⟨75, s, m⟩ ∧ s 0 = .v (.sl 1 nil (bsl l)) ∧ s 3 = .lptr (.tmp 3 0) (m.objs (.tmp 3 0)).1 0 ∧ (m.objs (.tmp 3 0)).2 = .box [.v (i64 (pgV l).kind), .v (i64 (pgV l).gen), .v (i64 (pgV l).mark), .v (i64 (pgV l).idx), .v (i64 (pgV l).part), .v (i64 (pgV l).parts), .v (.sl 1 (pgV l).nil (bsl (pgV l).b))] ∧ s 4 = .v (i64 (pgR l)) ∧ s 5 = .lptr (.tmp 5 0) (m.objs (.tmp 5 0)).1 0 ∧ (m.objs (.tmp 5 0)).2 = .box [.v (i64 (pgV l).kind), .v (i64 (pgV l).gen), .v (i64 (pgV l).mark), .v (i64 (pgV l).idx), .v (i64 (pgV l).part), .v (i64 (pgV l).parts), .v (.sl 1 (pgV l).nil (bsl (pgV l).b))] ∧ s 6 = .v (.b (pgGood l)) ∧ s 7 = .v (.b (blk l k)) ∧ s 8 = .v (i64 (k : Int)) ∧ (∀ i, (m.objs (.res i)).2 = .dead) ∧ m.G = []) (l.length) ?_ ?_ ?_
    · refine ⟨_, _, rfl, ?_, ?_, ?_, ?_, ?_, ?_, ?_, ?_, ?_, (by intro i; simp [Mem.set, hr]), (by exact hG)⟩ <;> try simp (disch := first | omega | decide) only [go_sem, f0, cellsOf_page, pageEq_refl, blk_all]
      all_goals first | rfl | (simp [blk]; done)
    · clear f0 hr hG
      rintro k σ hk ⟨s, m, rfl, f0, f3, o3, f4, f5, o5, f6, f7, f8, hr, hG⟩
      obtain ⟨g3, o3⟩ : ∃ g, m.objs (.tmp 3 0) = (g, .box [.v (i64 (pgV l).kind), .v (i64 (pgV l).gen), .v (i64 (pgV l).mark), .v (i64 (pgV l).idx), .v (i64 (pgV l).part), .v (i64 (pgV l).parts), .v (.sl 1 (pgV l).nil (bsl (pgV l).b))]) := ⟨_, Prod.ext rfl o3⟩
      rw [o3] at f3
      obtain ⟨g5, o5⟩ : ∃ g, m.objs (.tmp 5 0) = (g, .box [.v (i64 (pgV l).kind), .v (i64 (pgV l).gen), .v (i64 (pgV l).mark), .v (i64 (pgV l).idx), .v (i64 (pgV l).part), .v (i64 (pgV l).parts), .v (.sl 1 (pgV l).nil (bsl (pgV l).b))]) := ⟨_, Prod.ext rfl o5⟩
      rw [o5] at f5
      refine AW.seq ?_
      refine AW.seq ?_
      refine AW.region (cfg := cfg) ?_
      iterate 4 (apply aops_step (by decide) rfl; · (intro K hK; simp (disch := first | omega | decide) only [go_sem, f0, f3, f4, f5, f6, f7, f8, o3, o5, List.map, List.length_map, aops_len u25, cellsOf_page, pageEq_refl, blk_all]; exact hK _))
      refine aops_nil ?_
      apply AW.cond
      · simp (disch := first | omega | decide) only [go_sem, f0, f3, f4, f5, f6, f7, f8, o3, o5, cellsOf_page, pageEq_refl, blk_all]; rfl
      case hf => intro hb; (simp at hb; omega)
      case ht =>
      intro hb
      have hbt31 := hb
      refine AW.skip ?_
      refine AW.seq ?_
      refine AW.block ?_
      refine AW.region (cfg := cfg) ?_
      iterate 2 (apply aops_step (by decide) rfl; · (intro K hK; simp (disch := first | omega | decide) only [go_sem, f0, f3, f4, f5, f6, f7, f8, o3, o5, cellsOf_page, pageEq_refl, blk_all]; exact hK _))
      apply aops_merge' (by decide) (by exact want_of (d := 35) rfl (by simp (disch := first | omega | decide) only [go_sem, f0, f3, f4, f5, f6, f7, f8, o3, o5, opn_cond, cellsOf_page, pageEq_refl, blk_all]; rfl))
      · intro hc K hK
        have hc2 := hc
        simp only [beq_iff_eq, decide_eq_true_eq, decide_eq_false_iff_not, Bool.or_eq_true, Bool.and_eq_true, Bool.or_eq_false_iff, Bool.and_eq_false_iff] at hc2
        simp (disch := first | omega | decide) only [go_sem, f0, f3, f4, f5, f6, f7, f8, o3, o5, opn_cond, hc, if_true, cellsOf_page, pageEq_refl, blk_all]
        exact hK _
      apply aops_merge' (by decide) (by exact want_of (d := 35) rfl (by simp (disch := first | omega | decide) only [go_sem, f0, f3, f4, f5, f6, f7, f8, o3, o5, opn_cond, cellsOf_page, pageEq_refl, blk_all]; rfl))
      · intro hc K hK
        have hc2 := hc
        simp only [beq_iff_eq, decide_eq_true_eq, decide_eq_false_iff_not, Bool.or_eq_true, Bool.and_eq_true, Bool.or_eq_false_iff, Bool.and_eq_false_iff] at hc2
        simp (disch := first | omega | decide) only [go_sem, f0, f3, f4, f5, f6, f7, f8, o3, o5, opn_cond, hc, if_true, cellsOf_page, pageEq_refl, blk_all]
        exact hK _
      apply aops_merge' (by decide) (by exact want_of (d := 35) rfl (by simp (disch := first | omega | decide) only [go_sem, f0, f3, f4, f5, f6, f7, f8, o3, o5, opn_cond, cellsOf_page, pageEq_refl, blk_all]; rfl))
      · intro hc K hK
        have hc2 := hc
        simp only [beq_iff_eq, decide_eq_true_eq, decide_eq_false_iff_not, Bool.or_eq_true, Bool.and_eq_true, Bool.or_eq_false_iff, Bool.and_eq_false_iff] at hc2
        simp (disch := first | omega | decide) only [go_sem, f0, f3, f4, f5, f6, f7, f8, o3, o5, opn_cond, hc, if_true, act_indexAddr_s u25 ti5, cellsOf_page, pageEq_refl, blk_all]
        skip
        exact hK _
      apply aops_merge' (by decide) (by exact want_of (d := 35) rfl (by simp (disch := first | omega | decide) only [go_sem, f0, f3, f4, f5, f6, f7, f8, o3, o5, opn_cond, cellsOf_page, pageEq_refl, blk_all]; rfl))
      · intro hc K hK
        have hc2 := hc
        simp only [beq_iff_eq, decide_eq_true_eq, decide_eq_false_iff_not, Bool.or_eq_true, Bool.and_eq_true, Bool.or_eq_false_iff, Bool.and_eq_false_iff] at hc2
        simp (disch := first | omega | decide) only [go_sem, f0, f3, f4, f5, f6, f7, f8, o3, o5, opn_cond, hc, if_true, act_load_t ti5, cellsOf_page, pageEq_refl, blk_all]
        skip
        exact hK _
      apply aops_merge' (by decide) (by exact want_of (d := 35) rfl (by simp (disch := first | omega | decide) only [go_sem, f0, f3, f4, f5, f6, f7, f8, o3, o5, opn_cond, cellsOf_page, pageEq_refl, blk_all]; rfl))
      · intro hc K hK
        have hc2 := hc
        simp only [beq_iff_eq, decide_eq_true_eq, decide_eq_false_iff_not, Bool.or_eq_true, Bool.and_eq_true, Bool.or_eq_false_iff, Bool.and_eq_false_iff] at hc2
        simp (disch := first | omega | decide) only [go_sem, f0, f3, f4, f5, f6, f7, f8, o3, o5, opn_cond, hc, if_true, cellsOf_page, pageEq_refl, blk_all]
        exact hK _
      iterate 2 (apply aops_step (by decide) rfl; · (intro K hK; simp (disch := first | omega | decide) only [go_sem, f0, f3, f4, f5, f6, f7, f8, o3, o5, cellsOf_page, pageEq_refl, blk_all]; exact hK _))
      refine aops_nil ?_
      refine AW.region (cfg := cfg) ?_
      iterate 3 (apply aops_step (by decide) rfl; · (intro K hK; simp (disch := first | omega | decide) only [go_sem, f0, f3, f4, f5, f6, f7, f8, o3, o5, cellsOf_page, pageEq_refl, blk_all]; exact hK _))
      refine aops_nil ?_
      refine ⟨_, _, rfl, ?_, ?_, ?_, ?_, ?_, ?_, ?_, ?_, ?_, (by intro i; simp [Mem.set, hr]), (by exact hG)⟩ <;> try simp (disch := first | omega | decide) only [go_sem, f0, f3, f4, f5, f6, f7, f8, o3, o5, cellsOf_page, pageEq_refl, blk_all]
      all_goals first | rfl | (rw [← blk_succ hk]; done)
    · clear f0 hr hG
      rintro σ ⟨s, m, rfl, f0, f3, o3, f4, f5, o5, f6, f7, f8, hr, hG⟩
      obtain ⟨g3, o3⟩ : ∃ g, m.objs (.tmp 3 0) = (g, .box [.v (i64 (pgV l).kind), .v (i64 (pgV l).gen), .v (i64 (pgV l).mark), .v (i64 (pgV l).idx), .v (i64 (pgV l).part), .v (i64 (pgV l).parts), .v (.sl 1 (pgV l).nil (bsl (pgV l).b))]) := ⟨_, Prod.ext rfl o3⟩
      rw [o3] at f3
      obtain ⟨g5, o5⟩ : ∃ g, m.objs (.tmp 5 0) = (g, .box [.v (i64 (pgV l).kind), .v (i64 (pgV l).gen), .v (i64 (pgV l).mark), .v (i64 (pgV l).idx), .v (i64 (pgV l).part), .v (i64 (pgV l).parts), .v (.sl 1 (pgV l).nil (bsl (pgV l).b))]) := ⟨_, Prod.ext rfl o5⟩
      rw [o5] at f5
      refine AW.seq ?_
      refine AW.seq ?_
      refine AW.region (cfg := cfg) ?_
      iterate 4 (apply aops_step (by decide) rfl; · (intro K hK; simp (disch := first | omega | decide) only [go_sem, f0, f3, f4, f5, f6, f7, f8, o3, o5, List.map, List.length_map, aops_len u25, cellsOf_page, pageEq_refl, blk_all]; exact hK _))
      refine aops_nil ?_
      apply AW.cond
      · simp (disch := first | omega | decide) only [go_sem, f0, f3, f4, f5, f6, f7, f8, o3, o5, cellsOf_page, pageEq_refl, blk_all]; rfl
      case ht => intro hb; (simp at hb; done)
      case hf =>
      intro hb
      have hbt31 := hb
      refine AW.exit ?_
      refine AW.seq ?_
      by_cases hsp : pgGood l = true
      · have hd := decide_eq_true hsp
        obtain ⟨e1, e2⟩ := pgR_is hsp
        have hb3 := blk_good hsp
        have hb4 : (pgP l).b.length ≤ 1000 := by (show ((l.drop 20).take _).length ≤ _; simp; omega)
        refine AW.region (cfg := cfg) ?_
        apply aops_step (by decide) rfl
        · intro K hK
          simp (disch := first | omega | decide) only [go_sem, f0, f3, f4, f5, f6, f7, f8, o3, o5, hd, hsp, e2, hb3, act_load_t ti47, List.map, cellsOf_page, pageEq_refl, blk_all]
          rw [mwp_load_bs (by simp (disch := first | omega | decide) only [go_sem, f0, f3, f4, f5, f6, f7, f8, o3, o5, hd, hsp, e2, hb3, cellsOf_page, pageEq_refl, blk_all]; rfl) (by simp [setAt])]
          exact hK _
        apply aops_step (by decide) rfl
        · intro K hK
          simp (disch := first | omega | decide) only [go_sem, f0, f3, f4, f5, f6, f7, f8, o3, o5, hd, hsp, e2, hb3, act_load_t ti47, List.map, cellsOf_page, pageEq_refl, blk_all]
          rw [mwp_load_bs (by simp (disch := first | omega | decide) only [go_sem, f0, f3, f4, f5, f6, f7, f8, o3, o5, hd, hsp, e2, hb3, cellsOf_page, pageEq_refl, blk_all]; rfl) (by simp [setAt])]
          exact hK _
        apply aops_step (by decide) rfl
        · intro K hK
          simp (disch := first | omega | decide) only [go_sem, f0, f3, f4, f5, f6, f7, f8, o3, o5, hd, hsp, e2, hb3, act_call, List.map, cellsOf_page, pageEq_refl, blk_all]
          apply mwp_call_s rfl rfl rfl
          · intro Q hQ
            (simp (disch := first | omega | decide) only [go_sem, f0, f3, f4, f5, f6, f7, f8, o3, o5, hd, hsp, e2, hb3, peekL, reifyL_nil, reifyL_cons, reify_v, cellsOf_page, pageEq_refl, blk_all]; (exact hQ))
          · exact good_refSameP (pgV l) (by rw [e1]; omega) (pgV l) (by rw [e1]; omega)
          · simp [-List.map_take, -List.map_drop, -List.map_append, -List.map_replicate, -List.reduceReplicate, noPtrL, noPtr, noPtrL_bsl, noPtrL_map, sub]
          · rfl
          · exact hK _
        iterate 15 (apply aops_step (by decide) rfl; · (intro K hK; simp (disch := first | omega | decide) only [go_sem, f0, f3, f4, f5, f6, f7, f8, o3, o5, hd, hsp, e2, hb3, bin_eql_b u4, cellsOf_page, pageEq_refl, blk_all]; exact hK _))
        apply aops_step (by decide) rfl
        · intro K hK
          simp (disch := first | omega | decide) only [go_sem, f0, f3, f4, f5, f6, f7, f8, o3, o5, hd, hsp, e2, hb3, act_call, List.map, cellsOf_page, pageEq_refl, blk_all]
          apply mwp_call_s rfl rfl rfl
          · intro Q hQ
            (simp (disch := first | omega | decide) only [go_sem, f0, f3, f4, f5, f6, f7, f8, o3, o5, hd, hsp, e2, hb3, peekL, reifyL_nil, reifyL_cons, reify_v, cellsOf_page, pageEq_refl, blk_all]; (exact hQ))
          · exact good_Blank nil l (by omega)
          · simp [-List.map_take, -List.map_drop, -List.map_append, -List.map_replicate, -List.reduceReplicate, noPtrL, noPtr, noPtrL_bsl, noPtrL_map, sub]
          · rfl
          · exact hK _
        iterate 7 (apply aops_step (by decide) rfl; · (intro K hK; simp (disch := first | omega | decide) only [go_sem, f0, f3, f4, f5, f6, f7, f8, o3, o5, hd, hsp, e2, hb3, bin_eql_b u4, cellsOf_page, pageEq_refl, blk_all]; exact hK _))
        apply aops_skip' (by decide) rfl
        apply aops_skip' (by decide) rfl
        iterate 3 (apply aops_step (by decide) rfl; · (intro K hK; simp (disch := first | omega | decide) only [go_sem, f0, f3, f4, f5, f6, f7, f8, o3, o5, hd, hsp, e2, hb3, cellsOf_page, pageEq_refl, blk_all]; exact hK _))
        apply aops_step (by decide) rfl
        · intro K hK
          simp (disch := first | omega | decide) only [go_sem, f0, f3, f4, f5, f6, f7, f8, o3, o5, hd, hsp, e2, hb3, act_call, List.map, cellsOf_page, pageEq_refl, blk_all]
          apply mwp_call_s rfl rfl rfl
          · intro Q hQ
            (simp (disch := first | omega | decide) only [go_sem, f0, f3, f4, f5, f6, f7, f8, o3, o5, hd, hsp, e2, hb3, peekL, reifyL_nil, reifyL_cons, reify_v, cellsOf_page, pageEq_refl, blk_all]; (exact hQ))
          · exact G.good_awake
          · simp [-List.map_take, -List.map_drop, -List.map_append, -List.map_replicate, -List.reduceReplicate, noPtrL, noPtr, noPtrL_bsl, noPtrL_map, sub]
          · rfl
          · exact hK _
        iterate 2 (apply aops_step (by decide) rfl; · (intro K hK; simp (disch := first | omega | decide) only [go_sem, f0, f3, f4, f5, f6, f7, f8, o3, o5, hd, hsp, e2, hb3, cellsOf_page, pageEq_refl, blk_all]; exact hK _))
        refine aops_nil ?_
        refine AW.ret ?_
        refine ⟨.inr rfl, ?_⟩
        apply Exists.intro
        refine leaves_tmp1 2 rfl ?_ (by rfl)
        simp (disch := first | omega | decide) only [go_sem, f0, f3, f4, f5, f6, f7, f8, o3, o5, hd, hsp, e2, hb3, cellsOf_page, pageEq_refl, blk_all]
        all_goals first | done | rfl | trace_state
      · have hd := decide_eq_false hsp
        have hsp := Bool.eq_false_iff.2 hsp
        obtain ⟨e1, e2⟩ := pgR_no hsp
        have hb3 := hsp
        refine AW.region (cfg := cfg) ?_
        apply aops_step (by decide) rfl
        · intro K hK
          simp (disch := first | omega | decide) only [go_sem, f0, f3, f4, f5, f6, f7, f8, o3, o5, hd, hsp, e2, hb3, act_load_t ti47, List.map, cellsOf_page, pageEq_refl, blk_all]
          rw [mwp_load_bs (by simp (disch := first | omega | decide) only [go_sem, f0, f3, f4, f5, f6, f7, f8, o3, o5, hd, hsp, e2, hb3, cellsOf_page, pageEq_refl, blk_all]; rfl) (by simp [setAt])]
          exact hK _
        apply aops_step (by decide) rfl
        · intro K hK
          simp (disch := first | omega | decide) only [go_sem, f0, f3, f4, f5, f6, f7, f8, o3, o5, hd, hsp, e2, hb3, act_load_t ti47, List.map, cellsOf_page, pageEq_refl, blk_all]
          rw [mwp_load_bs (by simp (disch := first | omega | decide) only [go_sem, f0, f3, f4, f5, f6, f7, f8, o3, o5, hd, hsp, e2, hb3, cellsOf_page, pageEq_refl, blk_all]; rfl) (by simp [setAt])]
          exact hK _
        apply aops_step (by decide) rfl
        · intro K hK
          simp (disch := first | omega | decide) only [go_sem, f0, f3, f4, f5, f6, f7, f8, o3, o5, hd, hsp, e2, hb3, act_call, List.map, cellsOf_page, pageEq_refl, blk_all]
          apply mwp_call_s rfl rfl rfl
          · intro Q hQ
            (simp (disch := first | omega | decide) only [go_sem, f0, f3, f4, f5, f6, f7, f8, o3, o5, hd, hsp, e2, hb3, peekL, reifyL_nil, reifyL_cons, reify_v, cellsOf_page, pageEq_refl, blk_all]; (exact hQ))
          · exact good_refSameP (pgV l) (by rw [e1]; simp [page0]) (pgV l) (by rw [e1]; simp [page0])
          · simp [-List.map_take, -List.map_drop, -List.map_append, -List.map_replicate, -List.reduceReplicate, noPtrL, noPtr, noPtrL_bsl, noPtrL_map, sub]
          · rfl
          · exact hK _
        iterate 15 (apply aops_step (by decide) rfl; · (intro K hK; simp (disch := first | omega | decide) only [go_sem, f0, f3, f4, f5, f6, f7, f8, o3, o5, hd, hsp, e2, hb3, bin_eql_b u4, cellsOf_page, pageEq_refl, blk_all]; exact hK _))
        apply aops_step (by decide) rfl
        · intro K hK
          simp (disch := first | omega | decide) only [go_sem, f0, f3, f4, f5, f6, f7, f8, o3, o5, hd, hsp, e2, hb3, act_call, List.map, cellsOf_page, pageEq_refl, blk_all]
          apply mwp_call_s rfl rfl rfl
          · intro Q hQ
            (simp (disch := first | omega | decide) only [go_sem, f0, f3, f4, f5, f6, f7, f8, o3, o5, hd, hsp, e2, hb3, peekL, reifyL_nil, reifyL_cons, reify_v, cellsOf_page, pageEq_refl, blk_all]; (exact hQ))
          · exact good_Blank nil l (by omega)
          · simp [-List.map_take, -List.map_drop, -List.map_append, -List.map_replicate, -List.reduceReplicate, noPtrL, noPtr, noPtrL_bsl, noPtrL_map, sub]
          · rfl
          · exact hK _
        iterate 7 (apply aops_step (by decide) rfl; · (intro K hK; simp (disch := first | omega | decide) only [go_sem, f0, f3, f4, f5, f6, f7, f8, o3, o5, hd, hsp, e2, hb3, bin_eql_b u4, cellsOf_page, pageEq_refl, blk_all]; exact hK _))
        apply aops_merge' (by decide) (by exact want_of (d := 67) rfl (by simp (disch := first | omega | decide) only [go_sem, f0, f3, f4, f5, f6, f7, f8, o3, o5, hd, hsp, e2, hb3, opn_cond, cellsOf_page, pageEq_refl, blk_all]; rfl))
        · intro hc K hK
          have hc2 := hc
          simp only [beq_iff_eq, decide_eq_true_eq, decide_eq_false_iff_not, Bool.or_eq_true, Bool.and_eq_true, Bool.or_eq_false_iff, Bool.and_eq_false_iff] at hc2
          simp (disch := first | omega | decide) only [go_sem, f0, f3, f4, f5, f6, f7, f8, o3, o5, hd, hsp, e2, hb3, opn_cond, hc, if_true, cellsOf_page, pageEq_refl, blk_all]
          exact hK _
        apply aops_merge' (by decide) (by exact want_of (d := 67) rfl (by simp (disch := first | omega | decide) only [go_sem, f0, f3, f4, f5, f6, f7, f8, o3, o5, hd, hsp, e2, hb3, opn_cond, cellsOf_page, pageEq_refl, blk_all]; rfl))
        · intro hc K hK
          have hc2 := hc
          simp only [beq_iff_eq, decide_eq_true_eq, decide_eq_false_iff_not, Bool.or_eq_true, Bool.and_eq_true, Bool.or_eq_false_iff, Bool.and_eq_false_iff] at hc2
          simp (disch := first | omega | decide) only [go_sem, f0, f3, f4, f5, f6, f7, f8, o3, o5, hd, hsp, e2, hb3, opn_cond, hc, if_true, cellsOf_page, pageEq_refl, blk_all]
          exact hK _
        iterate 3 (apply aops_step (by decide) rfl; · (intro K hK; simp (disch := first | omega | decide) only [go_sem, f0, f3, f4, f5, f6, f7, f8, o3, o5, hd, hsp, e2, hb3, cellsOf_page, pageEq_refl, blk_all]; exact hK _))
        apply aops_step (by decide) rfl
        · intro K hK
          simp (disch := first | omega | decide) only [go_sem, f0, f3, f4, f5, f6, f7, f8, o3, o5, hd, hsp, e2, hb3, act_call, List.map, cellsOf_page, pageEq_refl, blk_all]
          apply mwp_call_s rfl rfl rfl
          · intro Q hQ
            (simp (disch := first | omega | decide) only [go_sem, f0, f3, f4, f5, f6, f7, f8, o3, o5, hd, hsp, e2, hb3, peekL, reifyL_nil, reifyL_cons, reify_v, cellsOf_page, pageEq_refl, blk_all]; (exact hQ))
          · exact G.good_awake
          · simp [-List.map_take, -List.map_drop, -List.map_append, -List.map_replicate, -List.reduceReplicate, noPtrL, noPtr, noPtrL_bsl, noPtrL_map, sub]
          · rfl
          · exact hK _
        iterate 2 (apply aops_step (by decide) rfl; · (intro K hK; simp (disch := first | omega | decide) only [go_sem, f0, f3, f4, f5, f6, f7, f8, o3, o5, hd, hsp, e2, hb3, cellsOf_page, pageEq_refl, blk_all]; exact hK _))
        refine aops_nil ?_
        refine AW.ret ?_
        refine ⟨.inr rfl, ?_⟩
        apply Exists.intro
        refine leaves_tmp1 2 rfl ?_ (by rfl)
        simp (disch := first | omega | decide) only [go_sem, f0, f3, f4, f5, f6, f7, f8, o3, o5, hd, hsp, e2, hb3, cellsOf_page, pageEq_refl, blk_all]
        all_goals first | done | rfl | trace_state

end Go.Vai.G
