import Derived.Test.YtompjoadhhjddaabAw09
namespace Go.Vai.L
open Go.Proofs Go.Vai Go.Vai.O
set_option linter.unusedSimpArgs false
set_option linter.unusedVariables false
theorem u4 : Try.prog.underlying 4 = some .bool := by kernel_rfl

set_option maxHeartbeats 4000000 in
set_option maxRecDepth 100000 in
theorem good_LsaReads (nil : Bool) (l : List (BitVec 8)) (hl : l.length ≤ 9223372036854775807) (hz : nil = true → l = []) : Good Try.prog 4 [(.sl 1 nil (bsl l), false)] [] [(.b true, false)] [] := by
  refine good_of_body4 49 Try.func4 rfl rfl rfl (by simp) (by simp) (by simp [noPtrL, noPtr]) rfl ?_
  intro s m ha hr hv hG
  have f0 : s 0 = .v (.sl 1 nil (bsl l)) := ha 0 _ rfl
  clear ha
  refine AW.seq ?_
  refine AW.region (cfg := cfg) ?_
  iterate 1 (apply aops_step (by decide) rfl; · (intro K hK; simp (disch := first | omega | decide) only [go_sem, f0, cellsOf_link, cellsOf_lsa, lsaEq_refl, d33, d77, d10, d01, d10', d00, d11, dtt, dff, dtf, dft, dnt, dnf, deq, Bool.not_true, Bool.not_false, Bool.true_and, Bool.and_true, beq_self_eq_true, bne_self_eq_false]; exact hK _))
  refine aops_nil ?_
  refine AW.seq ?_
  refine AW.seq ?_
  refine AW.region (cfg := cfg) ?_
  iterate 3 (apply aops_step (by decide) rfl; · (intro K hK; simp (disch := first | omega | decide) only [go_sem, f0, List.map, List.length_map, aops_len u25, cellsOf_link, cellsOf_lsa, lsaEq_refl, d33, d77, d10, d01, d10', d00, d11, dtt, dff, dtf, dft, dnt, dnf, deq, Bool.not_true, Bool.not_false, Bool.true_and, Bool.and_true, beq_self_eq_true, bne_self_eq_false]; exact hK _))
  refine aops_nil ?_
  apply AW.cond
  · simp (disch := first | omega | decide) only [go_sem, f0, cellsOf_link, cellsOf_lsa, lsaEq_refl, d33, d77, d10, d01, d10', d00, d11, dtt, dff, dtf, dft, dnt, dnf, deq, Bool.not_true, Bool.not_false, Bool.true_and, Bool.and_true, beq_self_eq_true, bne_self_eq_false]; rfl
  case ht =>
    intro hb
    try simp only [Bool.or_eq_true, Bool.and_eq_true, Bool.or_eq_false_iff, Bool.and_eq_false_iff, decide_eq_true_eq, decide_eq_false_iff_not] at hb
    have hbt10 := hb
    refine AW.seq ?_
    refine AW.region (cfg := cfg) ?_
    apply aops_step (by decide) rfl
    · intro K hK
      simp (disch := first | omega | decide) only [go_sem, f0, act_call, List.map, cellsOf_link, cellsOf_lsa, lsaEq_refl, d33, d77, d10, d01, d10', d00, d11, dtt, dff, dtf, dft, dnt, dnf, deq, Bool.not_true, Bool.not_false, Bool.true_and, Bool.and_true, beq_self_eq_true, bne_self_eq_false]
      apply mwp_call_s rfl rfl rfl
      · intro Q hQ
        simp (disch := first | omega | decide) only [go_sem, f0, peekL, reifyL_nil, reifyL_cons, reify_v, cellsOf_link, cellsOf_lsa, lsaEq_refl, d33, d77, d10, d01, d10', d00, d11, dtt, dff, dtf, dft, dnt, dnf, deq, Bool.not_true, Bool.not_false, Bool.true_and, Bool.and_true, beq_self_eq_true, bne_self_eq_false]
        exact hQ
      · exact L.good_awake
      · simp [-List.map_take, -List.map_drop, -List.map_append, -List.map_replicate, -List.reduceReplicate, noPtrL, noPtr, noPtrL_bsl, noPtrL_map, noPtrL_links, noPtr_lsa, noPtrL_lsas, sub]
      · rfl
      · exact hK _
    iterate 1 (apply aops_step (by decide) rfl; · (intro K hK; simp (disch := first | omega | decide) only [go_sem, f0, cellsOf_link, cellsOf_lsa, lsaEq_refl, d33, d77, d10, d01, d10', d00, d11, dtt, dff, dtf, dft, dnt, dnf, deq, Bool.not_true, Bool.not_false, Bool.true_and, Bool.and_true, beq_self_eq_true, bne_self_eq_false]; exact hK _))
    refine aops_nil ?_
    refine AW.ret ?_
    refine ⟨.inr rfl, ?_⟩
    apply Exists.intro
    refine leaves_tmp1 2 rfl ?_ (by rfl)
    simp (disch := first | omega | decide) only [go_sem, f0, cellsOf_link, cellsOf_lsa, lsaEq_refl, d33, d77, d10, d01, d10', d00, d11, dtt, dff, dtf, dft, dnt, dnf, deq, Bool.not_true, Bool.not_false, Bool.true_and, Bool.and_true, beq_self_eq_true, bne_self_eq_false]
    all_goals first | done | rfl | trace_state
  case hf =>
    intro hb
    try simp only [Bool.or_eq_true, Bool.and_eq_true, Bool.or_eq_false_iff, Bool.and_eq_false_iff, decide_eq_true_eq, decide_eq_false_iff_not] at hb
    have hbt10 := hb
    refine AW.skip ?_
    refine AW.seq ?_
    obtain ⟨r1, r2, r3, r4⟩ := rd_rf l
    have r5 : (rfL l).ls.length ≤ 255 := rfL_len l
    have r6 : nil = true → rdR l false = [] := fun h => by rw [hz h]; exact rdR_nil
    have r7 := rdR_le l false
    refine AW.region (cfg := cfg) ?_
    iterate 1 (apply aops_step (by decide) rfl; · (intro K hK; simp (disch := first | omega | decide) only [go_sem, f0, r1, r2, cellsOf_link, cellsOf_lsa, lsaEq_refl, d33, d77, d10, d01, d10', d00, d11, dtt, dff, dtf, dft, dnt, dnf, deq, Bool.not_true, Bool.not_false, Bool.true_and, Bool.and_true, beq_self_eq_true, bne_self_eq_false]; exact hK _))
    apply aops_step (by decide) rfl
    · intro K hK
      simp (disch := first | omega | decide) only [go_sem, f0, r1, r2, act_call, List.map, cellsOf_link, cellsOf_lsa, lsaEq_refl, d33, d77, d10, d01, d10', d00, d11, dtt, dff, dtf, dft, dnt, dnf, deq, Bool.not_true, Bool.not_false, Bool.true_and, Bool.and_true, beq_self_eq_true, bne_self_eq_false]
      apply mwp_call_g rfl rfl rfl
      · intro Q hQ
        simp (disch := first | omega | decide) only [go_sem, f0, r1, r2, peekL, reifyL_nil, reifyL_cons, reify_v, cellsOf_link, cellsOf_lsa, lsaEq_refl, d33, d77, d10, d01, d10', d00, d11, dtt, dff, dtf, dft, dnt, dnf, deq, Bool.not_true, Bool.not_false, Bool.true_and, Bool.and_true, beq_self_eq_true, bne_self_eq_false]
        exact hQ
      · exact hG
      · exact O.good_Read nil l (by omega) hz
      · simp (disch := first | omega | decide) only [go_sem, f0, r1, r2, cellsOf_link, cellsOf_lsa, lsaEq_refl, d33, d77, d10, d01, d10', d00, d11, dtt, dff, dtf, dft, dnt, dnf, deq, Bool.not_true, Bool.not_false, Bool.true_and, Bool.and_true, beq_self_eq_true, bne_self_eq_false]
        exact hK _
    iterate 1 (apply aops_step (by decide) rfl; · (intro K hK; simp (disch := first | omega | decide) only [go_sem, f0, r1, r2, cellsOf_link, cellsOf_lsa, lsaEq_refl, d33, d77, d10, d01, d10', d00, d11, dtt, dff, dtf, dft, dnt, dnf, deq, Bool.not_true, Bool.not_false, Bool.true_and, Bool.and_true, beq_self_eq_true, bne_self_eq_false]; exact hK _))
    refine aops_nil ?_
    refine AW.seq ?_
    refine AW.region (cfg := cfg) ?_
    iterate 1 (apply aops_step (by decide) rfl; · (intro K hK; simp (disch := first | omega | decide) only [go_sem, f0, r1, r2, cellsOf_link, cellsOf_lsa, lsaEq_refl, d33, d77, d10, d01, d10', d00, d11, dtt, dff, dtf, dft, dnt, dnf, deq, Bool.not_true, Bool.not_false, Bool.true_and, Bool.and_true, beq_self_eq_true, bne_self_eq_false]; exact hK _))
    apply aops_step (by decide) rfl
    · intro K hK
      simp (disch := first | omega | decide) only [go_sem, f0, r1, r2, act_call, List.map, cellsOf_link, cellsOf_lsa, lsaEq_refl, d33, d77, d10, d01, d10', d00, d11, dtt, dff, dtf, dft, dnt, dnf, deq, Bool.not_true, Bool.not_false, Bool.true_and, Bool.and_true, beq_self_eq_true, bne_self_eq_false]
      apply mwp_call_g rfl rfl rfl
      · intro Q hQ
        simp (disch := first | omega | decide) only [go_sem, f0, r1, r2, peekL, reifyL_nil, reifyL_cons, reify_v, cellsOf_link, cellsOf_lsa, lsaEq_refl, d33, d77, d10, d01, d10', d00, d11, dtt, dff, dtf, dft, dnt, dnf, deq, Bool.not_true, Bool.not_false, Bool.true_and, Bool.and_true, beq_self_eq_true, bne_self_eq_false]
        exact hQ
      · rfl
      · exact good_Read nil l false (by omega) hz
      · simp (disch := first | omega | decide) only [go_sem, f0, r1, r2, cellsOf_link, cellsOf_lsa, lsaEq_refl, d33, d77, d10, d01, d10', d00, d11, dtt, dff, dtf, dft, dnt, dnf, deq, Bool.not_true, Bool.not_false, Bool.true_and, Bool.and_true, beq_self_eq_true, bne_self_eq_false]
        exact hK _
    iterate 3 (apply aops_step (by decide) rfl; · (intro K hK; simp (disch := first | omega | decide) only [go_sem, f0, r1, r2, cellsOf_link, cellsOf_lsa, lsaEq_refl, d33, d77, d10, d01, d10', d00, d11, dtt, dff, dtf, dft, dnt, dnf, deq, Bool.not_true, Bool.not_false, Bool.true_and, Bool.and_true, beq_self_eq_true, bne_self_eq_false]; exact hK _))
    apply aops_step (by decide) rfl
    · intro K hK
      simp (disch := first | omega | decide) only [go_sem, f0, r1, r2, act_alloc_t ti24, List.map, cellsOf_link, cellsOf_lsa, lsaEq_refl, d33, d77, d10, d01, d10', d00, d11, dtt, dff, dtf, dft, dnt, dnf, deq, Bool.not_true, Bool.not_false, Bool.true_and, Bool.and_true, beq_self_eq_true, bne_self_eq_false]
      exact hK _
    apply aops_step0 rfl
    · intro K hK
      simp (disch := first | omega | decide) only [go_sem, f0, r1, r2, act_store_t ti24, List.map, cellsOf_link, cellsOf_lsa, lsaEq_refl, d33, d77, d10, d01, d10', d00, d11, dtt, dff, dtf, dft, dnt, dnf, deq, Bool.not_true, Bool.not_false, Bool.true_and, Bool.and_true, beq_self_eq_true, bne_self_eq_false]
      rw [mwp_store_c (by simp (disch := first | omega | decide) only [go_sem, f0, r1, r2, cellsOf_link, cellsOf_lsa, lsaEq_refl, d33, d77, d10, d01, d10', d00, d11, dtt, dff, dtf, dft, dnt, dnf, deq, Bool.not_true, Bool.not_false, Bool.true_and, Bool.and_true, beq_self_eq_true, bne_self_eq_false]; rfl) (by rfl) (by rfl) (by rfl) (by simp)]
      try simp only [setAt, cellsL, cellsOf_agg, cellsOf_base, List.map_cons, List.map_nil, List.set_cons_zero, List.set_cons_succ, Nat.reduceAdd, Nat.zero_add, hG]
      exact hK _
    iterate 1 (apply aops_step (by decide) rfl; · (intro K hK; simp (disch := first | omega | decide) only [go_sem, f0, r1, r2, cellsOf_link, cellsOf_lsa, lsaEq_refl, d33, d77, d10, d01, d10', d00, d11, dtt, dff, dtf, dft, dnt, dnf, deq, Bool.not_true, Bool.not_false, Bool.true_and, Bool.and_true, beq_self_eq_true, bne_self_eq_false]; exact hK _))
    refine aops_nil ?_
    refine AW.seq ?_
    refine AW.region (cfg := cfg) ?_
    iterate 1 (apply aops_step (by decide) rfl; · (intro K hK; simp (disch := first | omega | decide) only [go_sem, f0, r1, r2, cellsOf_link, cellsOf_lsa, lsaEq_refl, d33, d77, d10, d01, d10', d00, d11, dtt, dff, dtf, dft, dnt, dnf, deq, Bool.not_true, Bool.not_false, Bool.true_and, Bool.and_true, beq_self_eq_true, bne_self_eq_false]; exact hK _))
    apply aops_step (by decide) rfl
    · intro K hK
      simp (disch := first | omega | decide) only [go_sem, f0, r1, r2, act_call, List.map, cellsOf_link, cellsOf_lsa, lsaEq_refl, d33, d77, d10, d01, d10', d00, d11, dtt, dff, dtf, dft, dnt, dnf, deq, Bool.not_true, Bool.not_false, Bool.true_and, Bool.and_true, beq_self_eq_true, bne_self_eq_false]
      apply mwp_call_r rfl rfl rfl
      · intro Q hQ
        simp (disch := first | omega | decide) only [go_sem, f0, r1, r2, peekL, reifyL_nil, reifyL_cons, reify_v, cellsOf_link, cellsOf_lsa, lsaEq_refl, d33, d77, d10, d01, d10', d00, d11, dtt, dff, dtf, dft, dnt, dnf, deq, Bool.not_true, Bool.not_false, Bool.true_and, Bool.and_true, beq_self_eq_true, bne_self_eq_false]
        exact hQ
      · exact good_refRead nil l (by omega)
      · simp [-List.map_take, -List.map_drop, -List.map_append, -List.map_replicate, -List.reduceReplicate, noPtrL, noPtr, noPtrL_bsl, noPtrL_map, noPtrL_links, noPtr_lsa, noPtrL_lsas, sub]
      · simp (disch := first | omega | decide) only [go_sem, f0, r1, r2, cellsOf_link, cellsOf_lsa, lsaEq_refl, d33, d77, d10, d01, d10', d00, d11, dtt, dff, dtf, dft, dnt, dnf, deq, Bool.not_true, Bool.not_false, Bool.true_and, Bool.and_true, beq_self_eq_true, bne_self_eq_false]
        exact hK _
    iterate 3 (apply aops_step (by decide) rfl; · (intro K hK; simp (disch := first | omega | decide) only [go_sem, f0, r1, r2, cellsOf_link, cellsOf_lsa, lsaEq_refl, d33, d77, d10, d01, d10', d00, d11, dtt, dff, dtf, dft, dnt, dnf, deq, Bool.not_true, Bool.not_false, Bool.true_and, Bool.and_true, beq_self_eq_true, bne_self_eq_false]; exact hK _))
    apply aops_step (by decide) rfl
    · intro K hK
      simp (disch := first | omega | decide) only [go_sem, f0, r1, r2, act_alloc_t ti24, List.map, cellsOf_link, cellsOf_lsa, lsaEq_refl, d33, d77, d10, d01, d10', d00, d11, dtt, dff, dtf, dft, dnt, dnf, deq, Bool.not_true, Bool.not_false, Bool.true_and, Bool.and_true, beq_self_eq_true, bne_self_eq_false]
      exact hK _
    apply aops_step0 rfl
    · intro K hK
      simp (disch := first | omega | decide) only [go_sem, f0, r1, r2, act_store_t ti24, List.map, cellsOf_link, cellsOf_lsa, lsaEq_refl, d33, d77, d10, d01, d10', d00, d11, dtt, dff, dtf, dft, dnt, dnf, deq, Bool.not_true, Bool.not_false, Bool.true_and, Bool.and_true, beq_self_eq_true, bne_self_eq_false]
      rw [mwp_store_c (by simp (disch := first | omega | decide) only [go_sem, f0, r1, r2, cellsOf_link, cellsOf_lsa, lsaEq_refl, d33, d77, d10, d01, d10', d00, d11, dtt, dff, dtf, dft, dnt, dnf, deq, Bool.not_true, Bool.not_false, Bool.true_and, Bool.and_true, beq_self_eq_true, bne_self_eq_false]; rfl) (by rfl) (by rfl) (by rfl) (by simp)]
      try simp only [setAt, cellsL, cellsOf_agg, cellsOf_base, List.map_cons, List.map_nil, List.set_cons_zero, List.set_cons_succ, Nat.reduceAdd, Nat.zero_add, hG]
      exact hK _
    iterate 1 (apply aops_step (by decide) rfl; · (intro K hK; simp (disch := first | omega | decide) only [go_sem, f0, r1, r2, cellsOf_link, cellsOf_lsa, lsaEq_refl, d33, d77, d10, d01, d10', d00, d11, dtt, dff, dtf, dft, dnt, dnf, deq, Bool.not_true, Bool.not_false, Bool.true_and, Bool.and_true, beq_self_eq_true, bne_self_eq_false]; exact hK _))
    refine aops_nil ?_
    refine AW.seq ?_
    by_cases hsp : rfOK l = true
    · have hd := decide_eq_true hsp
      have z1 := r3 hsp
      have z2 := rfN_pos hsp
      have z3 : decide (((rdR l false).length : Int) = (l.length : Int) - rfN l) = true := decide_eq_true z1
      refine AW.region (cfg := cfg) ?_
      iterate 5 (apply aops_step (by decide) rfl; · (intro K hK; simp (disch := first | omega | decide) only [go_sem, f0, r1, r2, hd, hsp, z2, z3, bin_eql_b u4, cellsOf_link, cellsOf_lsa, lsaEq_refl, d33, d77, d10, d01, d10', d00, d11, dtt, dff, dtf, dft, dnt, dnf, deq, Bool.not_true, Bool.not_false, Bool.true_and, Bool.and_true, beq_self_eq_true, bne_self_eq_false]; exact hK _))
      apply aops_step (by decide) rfl
      · intro K hK
        simp (disch := first | omega | decide) only [go_sem, f0, r1, r2, hd, hsp, z2, z3, act_load_t ti24, List.map, cellsOf_link, cellsOf_lsa, lsaEq_refl, d33, d77, d10, d01, d10', d00, d11, dtt, dff, dtf, dft, dnt, dnf, deq, Bool.not_true, Bool.not_false, Bool.true_and, Bool.and_true, beq_self_eq_true, bne_self_eq_false]
        rw [mwp_load_bs (by simp (disch := first | omega | decide) only [go_sem, f0, r1, r2, hd, hsp, z2, z3, cellsOf_link, cellsOf_lsa, lsaEq_refl, d33, d77, d10, d01, d10', d00, d11, dtt, dff, dtf, dft, dnt, dnf, deq, Bool.not_true, Bool.not_false, Bool.true_and, Bool.and_true, beq_self_eq_true, bne_self_eq_false]; rfl) (by simp [setAt])]
        exact hK _
      apply aops_step (by decide) rfl
      · intro K hK
        simp (disch := first | omega | decide) only [go_sem, f0, r1, r2, hd, hsp, z2, z3, act_load_t ti24, List.map, cellsOf_link, cellsOf_lsa, lsaEq_refl, d33, d77, d10, d01, d10', d00, d11, dtt, dff, dtf, dft, dnt, dnf, deq, Bool.not_true, Bool.not_false, Bool.true_and, Bool.and_true, beq_self_eq_true, bne_self_eq_false]
        rw [mwp_load_bs (by simp (disch := first | omega | decide) only [go_sem, f0, r1, r2, hd, hsp, z2, z3, cellsOf_link, cellsOf_lsa, lsaEq_refl, d33, d77, d10, d01, d10', d00, d11, dtt, dff, dtf, dft, dnt, dnf, deq, Bool.not_true, Bool.not_false, Bool.true_and, Bool.and_true, beq_self_eq_true, bne_self_eq_false]; rfl) (by simp [setAt])]
        exact hK _
      apply aops_step (by decide) rfl
      · intro K hK
        simp (disch := first | omega | decide) only [go_sem, f0, r1, r2, hd, hsp, z2, z3, act_call, List.map, cellsOf_link, cellsOf_lsa, lsaEq_refl, d33, d77, d10, d01, d10', d00, d11, dtt, dff, dtf, dft, dnt, dnf, deq, Bool.not_true, Bool.not_false, Bool.true_and, Bool.and_true, beq_self_eq_true, bne_self_eq_false]
        apply mwp_call_s rfl rfl rfl
        · intro Q hQ
          simp (disch := first | omega | decide) only [go_sem, f0, r1, r2, hd, hsp, z2, z3, peekL, reifyL_nil, reifyL_cons, reify_v, cellsOf_link, cellsOf_lsa, lsaEq_refl, d33, d77, d10, d01, d10', d00, d11, dtt, dff, dtf, dft, dnt, dnf, deq, Bool.not_true, Bool.not_false, Bool.true_and, Bool.and_true, beq_self_eq_true, bne_self_eq_false]
          exact hQ
        · exact good_refSame (rfL l) (by omega) (rfL l) (by omega)
        · simp [-List.map_take, -List.map_drop, -List.map_append, -List.map_replicate, -List.reduceReplicate, noPtrL, noPtr, noPtrL_bsl, noPtrL_map, noPtrL_links, noPtr_lsa, noPtrL_lsas, sub]
        · rfl
        · exact hK _
      iterate 6 (apply aops_step (by decide) rfl; · (intro K hK; simp (disch := first | omega | decide) only [go_sem, f0, r1, r2, hd, hsp, z2, z3, cellsOf_link, cellsOf_lsa, lsaEq_refl, d33, d77, d10, d01, d10', d00, d11, dtt, dff, dtf, dft, dnt, dnf, deq, Bool.not_true, Bool.not_false, Bool.true_and, Bool.and_true, beq_self_eq_true, bne_self_eq_false]; exact hK _))
      apply aops_step (by decide) rfl
      · intro K hK
        simp (disch := first | omega | decide) only [go_sem, f0, r1, r2, hd, hsp, z2, z3, act_call, List.map, cellsOf_link, cellsOf_lsa, lsaEq_refl, d33, d77, d10, d01, d10', d00, d11, dtt, dff, dtf, dft, dnt, dnf, deq, Bool.not_true, Bool.not_false, Bool.true_and, Bool.and_true, beq_self_eq_true, bne_self_eq_false]
        apply mwp_call_g rfl rfl rfl
        · intro Q hQ
          simp (disch := first | omega | decide) only [go_sem, f0, r1, r2, hd, hsp, z2, z3, peekL, reifyL_nil, reifyL_cons, reify_v, cellsOf_link, cellsOf_lsa, lsaEq_refl, d33, d77, d10, d01, d10', d00, d11, dtt, dff, dtf, dft, dnt, dnf, deq, Bool.not_true, Bool.not_false, Bool.true_and, Bool.and_true, beq_self_eq_true, bne_self_eq_false]
          exact hQ
        · rfl
        · exact O.good_Left nil _ _ (by omega) r6
        · simp (disch := first | omega | decide) only [go_sem, f0, r1, r2, hd, hsp, z2, z3, cellsOf_link, cellsOf_lsa, lsaEq_refl, d33, d77, d10, d01, d10', d00, d11, dtt, dff, dtf, dft, dnt, dnf, deq, Bool.not_true, Bool.not_false, Bool.true_and, Bool.and_true, beq_self_eq_true, bne_self_eq_false]
          exact hK _
      iterate 8 (apply aops_step (by decide) rfl; · (intro K hK; simp (disch := first | omega | decide) only [go_sem, f0, r1, r2, hd, hsp, z2, z3, List.map, List.length_map, aops_len u25, cellsOf_link, cellsOf_lsa, lsaEq_refl, d33, d77, d10, d01, d10', d00, d11, dtt, dff, dtf, dft, dnt, dnf, deq, Bool.not_true, Bool.not_false, Bool.true_and, Bool.and_true, beq_self_eq_true, bne_self_eq_false]; exact hK _))
      apply aops_step (by decide) rfl
      · intro K hK
        simp (disch := first | omega | decide) only [go_sem, f0, r1, r2, hd, hsp, z2, z3, act_call, List.map, cellsOf_link, cellsOf_lsa, lsaEq_refl, d33, d77, d10, d01, d10', d00, d11, dtt, dff, dtf, dft, dnt, dnf, deq, Bool.not_true, Bool.not_false, Bool.true_and, Bool.and_true, beq_self_eq_true, bne_self_eq_false]
        apply mwp_call_s rfl rfl rfl
        · intro Q hQ
          simp (disch := first | omega | decide) only [go_sem, f0, r1, r2, hd, hsp, z2, z3, peekL, reifyL_nil, reifyL_cons, reify_v, cellsOf_link, cellsOf_lsa, lsaEq_refl, d33, d77, d10, d01, d10', d00, d11, dtt, dff, dtf, dft, dnt, dnf, deq, Bool.not_true, Bool.not_false, Bool.true_and, Bool.and_true, beq_self_eq_true, bne_self_eq_false]
          exact hQ
        · exact L.good_awake
        · simp [-List.map_take, -List.map_drop, -List.map_append, -List.map_replicate, -List.reduceReplicate, noPtrL, noPtr, noPtrL_bsl, noPtrL_map, noPtrL_links, noPtr_lsa, noPtrL_lsas, sub]
        · rfl
        · exact hK _
      iterate 2 (apply aops_step (by decide) rfl; · (intro K hK; simp (disch := first | omega | decide) only [go_sem, f0, r1, r2, hd, hsp, z2, z3, cellsOf_link, cellsOf_lsa, lsaEq_refl, d33, d77, d10, d01, d10', d00, d11, dtt, dff, dtf, dft, dnt, dnf, deq, Bool.not_true, Bool.not_false, Bool.true_and, Bool.and_true, beq_self_eq_true, bne_self_eq_false]; exact hK _))
      refine aops_nil ?_
      refine AW.ret ?_
      refine ⟨.inr rfl, ?_⟩
      apply Exists.intro
      refine leaves_tmp1 2 rfl ?_ (by rfl)
      simp (disch := first | omega | decide) only [go_sem, f0, r1, r2, hd, hsp, z2, z3, cellsOf_link, cellsOf_lsa, lsaEq_refl, d33, d77, d10, d01, d10', d00, d11, dtt, dff, dtf, dft, dnt, dnf, deq, Bool.not_true, Bool.not_false, Bool.true_and, Bool.and_true, beq_self_eq_true, bne_self_eq_false]
      all_goals first | done | rfl | trace_state
    · have hd := decide_eq_false hsp
      have hsp := Bool.eq_false_iff.2 hsp
      have z2 : decide (rfN l > 0) = false := rfN_0 hsp
      have z3 := d00
      refine AW.region (cfg := cfg) ?_
      iterate 5 (apply aops_step (by decide) rfl; · (intro K hK; simp (disch := first | omega | decide) only [go_sem, f0, r1, r2, hd, hsp, z2, z3, bin_eql_b u4, cellsOf_link, cellsOf_lsa, lsaEq_refl, d33, d77, d10, d01, d10', d00, d11, dtt, dff, dtf, dft, dnt, dnf, deq, Bool.not_true, Bool.not_false, Bool.true_and, Bool.and_true, beq_self_eq_true, bne_self_eq_false]; exact hK _))
      apply aops_step (by decide) rfl
      · intro K hK
        simp (disch := first | omega | decide) only [go_sem, f0, r1, r2, hd, hsp, z2, z3, act_load_t ti24, List.map, cellsOf_link, cellsOf_lsa, lsaEq_refl, d33, d77, d10, d01, d10', d00, d11, dtt, dff, dtf, dft, dnt, dnf, deq, Bool.not_true, Bool.not_false, Bool.true_and, Bool.and_true, beq_self_eq_true, bne_self_eq_false]
        rw [mwp_load_bs (by simp (disch := first | omega | decide) only [go_sem, f0, r1, r2, hd, hsp, z2, z3, cellsOf_link, cellsOf_lsa, lsaEq_refl, d33, d77, d10, d01, d10', d00, d11, dtt, dff, dtf, dft, dnt, dnf, deq, Bool.not_true, Bool.not_false, Bool.true_and, Bool.and_true, beq_self_eq_true, bne_self_eq_false]; rfl) (by simp [setAt])]
        exact hK _
      apply aops_step (by decide) rfl
      · intro K hK
        simp (disch := first | omega | decide) only [go_sem, f0, r1, r2, hd, hsp, z2, z3, act_load_t ti24, List.map, cellsOf_link, cellsOf_lsa, lsaEq_refl, d33, d77, d10, d01, d10', d00, d11, dtt, dff, dtf, dft, dnt, dnf, deq, Bool.not_true, Bool.not_false, Bool.true_and, Bool.and_true, beq_self_eq_true, bne_self_eq_false]
        rw [mwp_load_bs (by simp (disch := first | omega | decide) only [go_sem, f0, r1, r2, hd, hsp, z2, z3, cellsOf_link, cellsOf_lsa, lsaEq_refl, d33, d77, d10, d01, d10', d00, d11, dtt, dff, dtf, dft, dnt, dnf, deq, Bool.not_true, Bool.not_false, Bool.true_and, Bool.and_true, beq_self_eq_true, bne_self_eq_false]; rfl) (by simp [setAt])]
        exact hK _
      apply aops_step (by decide) rfl
      · intro K hK
        simp (disch := first | omega | decide) only [go_sem, f0, r1, r2, hd, hsp, z2, z3, act_call, List.map, cellsOf_link, cellsOf_lsa, lsaEq_refl, d33, d77, d10, d01, d10', d00, d11, dtt, dff, dtf, dft, dnt, dnf, deq, Bool.not_true, Bool.not_false, Bool.true_and, Bool.and_true, beq_self_eq_true, bne_self_eq_false]
        apply mwp_call_s rfl rfl rfl
        · intro Q hQ
          simp (disch := first | omega | decide) only [go_sem, f0, r1, r2, hd, hsp, z2, z3, peekL, reifyL_nil, reifyL_cons, reify_v, cellsOf_link, cellsOf_lsa, lsaEq_refl, d33, d77, d10, d01, d10', d00, d11, dtt, dff, dtf, dft, dnt, dnf, deq, Bool.not_true, Bool.not_false, Bool.true_and, Bool.and_true, beq_self_eq_true, bne_self_eq_false]
          exact hQ
        · exact good_refSame (rfL l) (by omega) (rfL l) (by omega)
        · simp [-List.map_take, -List.map_drop, -List.map_append, -List.map_replicate, -List.reduceReplicate, noPtrL, noPtr, noPtrL_bsl, noPtrL_map, noPtrL_links, noPtr_lsa, noPtrL_lsas, sub]
        · rfl
        · exact hK _
      iterate 5 (apply aops_step (by decide) rfl; · (intro K hK; simp (disch := first | omega | decide) only [go_sem, f0, r1, r2, hd, hsp, z2, z3, cellsOf_link, cellsOf_lsa, lsaEq_refl, d33, d77, d10, d01, d10', d00, d11, dtt, dff, dtf, dft, dnt, dnf, deq, Bool.not_true, Bool.not_false, Bool.true_and, Bool.and_true, beq_self_eq_true, bne_self_eq_false]; exact hK _))
      apply aops_skip' (by decide) rfl
      apply aops_skip' (by decide) rfl
      apply aops_skip' (by decide) rfl
      apply aops_skip' (by decide) rfl
      apply aops_skip' (by decide) rfl
      apply aops_skip' (by decide) rfl
      apply aops_skip' (by decide) rfl
      iterate 3 (apply aops_step (by decide) rfl; · (intro K hK; simp (disch := first | omega | decide) only [go_sem, f0, r1, r2, hd, hsp, z2, z3, cellsOf_link, cellsOf_lsa, lsaEq_refl, d33, d77, d10, d01, d10', d00, d11, dtt, dff, dtf, dft, dnt, dnf, deq, Bool.not_true, Bool.not_false, Bool.true_and, Bool.and_true, beq_self_eq_true, bne_self_eq_false]; exact hK _))
      apply aops_step (by decide) rfl
      · intro K hK
        simp (disch := first | omega | decide) only [go_sem, f0, r1, r2, hd, hsp, z2, z3, act_call, List.map, cellsOf_link, cellsOf_lsa, lsaEq_refl, d33, d77, d10, d01, d10', d00, d11, dtt, dff, dtf, dft, dnt, dnf, deq, Bool.not_true, Bool.not_false, Bool.true_and, Bool.and_true, beq_self_eq_true, bne_self_eq_false]
        apply mwp_call_s rfl rfl rfl
        · intro Q hQ
          simp (disch := first | omega | decide) only [go_sem, f0, r1, r2, hd, hsp, z2, z3, peekL, reifyL_nil, reifyL_cons, reify_v, cellsOf_link, cellsOf_lsa, lsaEq_refl, d33, d77, d10, d01, d10', d00, d11, dtt, dff, dtf, dft, dnt, dnf, deq, Bool.not_true, Bool.not_false, Bool.true_and, Bool.and_true, beq_self_eq_true, bne_self_eq_false]
          exact hQ
        · exact L.good_awake
        · simp [-List.map_take, -List.map_drop, -List.map_append, -List.map_replicate, -List.reduceReplicate, noPtrL, noPtr, noPtrL_bsl, noPtrL_map, noPtrL_links, noPtr_lsa, noPtrL_lsas, sub]
        · rfl
        · exact hK _
      iterate 2 (apply aops_step (by decide) rfl; · (intro K hK; simp (disch := first | omega | decide) only [go_sem, f0, r1, r2, hd, hsp, z2, z3, cellsOf_link, cellsOf_lsa, lsaEq_refl, d33, d77, d10, d01, d10', d00, d11, dtt, dff, dtf, dft, dnt, dnf, deq, Bool.not_true, Bool.not_false, Bool.true_and, Bool.and_true, beq_self_eq_true, bne_self_eq_false]; exact hK _))
      refine aops_nil ?_
      refine AW.ret ?_
      refine ⟨.inr rfl, ?_⟩
      apply Exists.intro
      refine leaves_tmp1 2 rfl ?_ (by rfl)
      simp (disch := first | omega | decide) only [go_sem, f0, r1, r2, hd, hsp, z2, z3, cellsOf_link, cellsOf_lsa, lsaEq_refl, d33, d77, d10, d01, d10', d00, d11, dtt, dff, dtf, dft, dnt, dnf, deq, Bool.not_true, Bool.not_false, Bool.true_and, Bool.and_true, beq_self_eq_true, bne_self_eq_false]
      all_goals first | done | rfl | trace_state

end Go.Vai.L
