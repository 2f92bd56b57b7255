import Derived.Test.YtblgcekomnnfmaagSlot7
namespace Go.Vai.S7
open Go.Proofs Go.Vai Go.Vai.G Go.Vai.L Go.Vai.O Go.Vai.R Go.Vai.U Go.Vai.Z
set_option linter.unusedSimpArgs false
set_option linter.unusedVariables false

set_option maxHeartbeats 4000000 in
set_option maxRecDepth 100000 in
theorem good_SlotSectors (ge : Int) (nil : Bool) (b : List (BitVec 8)) (hb0 : b.length ≤ 9223372036854775807) (hz : nil = true → b = []) (mk mo : Int) (nm : Bool) (ms : List PS) (hm : ms.length ≤ 9223372036854775807) (pm : ∀ x ∈ ms, x.2.length ≤ 9223372036854775807 ∧ (x.1 = true → x.2 = [])) : Good Try.prog 5 [(baseA ge nil b, false), (.agg [i64 mk, i64 mo], false), (.sl 1 nm (ms.map pslice), false)] [] [(.b true, false)] [] := by
  refine good_of_body4 89 Try.func5 rfl rfl rfl (by simp) (by simp) (by simp [noPtrL, noPtr]) (by rfl) ?_
  intro s m ha hr hv hG
  have f0 : s 0 = .v (baseA ge nil b) := ha 0 _ rfl
  have f1 : s 1 = .v (.agg [i64 mk, i64 mo]) := ha 1 _ rfl
  have f2 : s 2 = .v (.sl 1 nm (ms.map pslice)) := ha 2 _ rfl
  clear ha
  refine AW.seq ?_
  refine AW.region (cfg := cfg) ?_
  apply aops_step (by decide) rfl
  · intro K hK
    simp (disch := first | omega | decide) only [go_sem, f0, f1, f2, act_box_t ti45, List.map, cellsOf_base, cellsOf_ps, ne_eq, not_true_eq_false]
    rw [settleL_vish _ _ (by rfl)]
    simp (disch := first | omega | decide) only [go_sem, f0, f1, f2, cellsL, List.map, List.length_cons, List.length_nil, Nat.reduceAdd, if_true, cellsOf_base, cellsOf_ps, ne_eq, not_true_eq_false]
    exact hK _
  apply aops_step (by decide) rfl
  · intro K hK
    simp (disch := first | omega | decide) only [go_sem, f0, f1, f2, act_box_t ti46, List.map, cellsOf_base, cellsOf_ps, ne_eq, not_true_eq_false]
    rw [settleL_vish _ _ (by rfl)]
    simp (disch := first | omega | decide) only [go_sem, f0, f1, f2, cellsL, List.map, List.length_cons, List.length_nil, Nat.reduceAdd, if_true, cellsOf_base, cellsOf_ps, ne_eq, not_true_eq_false]
    exact hK _
  iterate 1 (apply aops_step (by decide) rfl; · (intro K hK; simp (disch := first | omega | decide) only [go_sem, f0, f1, f2, cellsOf_base, cellsOf_ps, ne_eq, not_true_eq_false]; exact hK _))
  refine aops_nil ?_
  refine AW.seq ?_
  refine AW.seq ?_
  refine AW.region (cfg := cfg) ?_
  apply aops_step (by decide) rfl
  · intro K hK
    simp (disch := first | omega | decide) only [go_sem, f0, f1, f2, act_fieldAddr_t fo45_1, List.map, cellsOf_base, cellsOf_ps, ne_eq, not_true_eq_false]
    rw [mwp_fieldAddr_b (by simp (disch := first | omega | decide) only [go_sem, f0, f1, f2, cellsOf_base, cellsOf_ps, ne_eq, not_true_eq_false]; rfl)]
    exact hK _
  apply aops_step (by decide) rfl
  · intro K hK
    simp (disch := first | omega | decide) only [go_sem, f0, f1, f2, act_load_t ti22, List.map, cellsOf_base, cellsOf_ps, ne_eq, not_true_eq_false]
    rw [mwp_load_b1 (by simp (disch := first | omega | decide) only [go_sem, f0, f1, f2, cellsOf_base, cellsOf_ps, ne_eq, not_true_eq_false]; rfl) (by rfl)]
    exact hK _
  iterate 3 (apply aops_step (by decide) rfl; · (intro K hK; simp (disch := first | omega | decide) only [go_sem, f0, f1, f2, List.map, List.length_map, aops_len u22, cellsOf_base, cellsOf_ps, ne_eq, not_true_eq_false]; exact hK _))
  apply aops_merge' (by decide) (by exact want_of (d := 18) rfl (by simp (disch := first | omega | decide) only [go_sem, f0, f1, f2, opn_cond, cellsOf_base, cellsOf_ps, ne_eq, not_true_eq_false]; rfl))
  · intro hc K hK
    have hc2 := hc
    simp only [beq_iff_eq, decide_eq_true_eq, decide_eq_false_iff_not, Bool.or_eq_true, Bool.and_eq_true, Bool.or_eq_false_iff, Bool.and_eq_false_iff] at hc2
    simp (disch := first | omega | decide) only [go_sem, f0, f1, f2, opn_cond, hc, if_true, cellsOf_base, cellsOf_ps, ne_eq, not_true_eq_false]
    exact hK _
  apply aops_merge' (by decide) (by exact want_of (d := 18) rfl (by simp (disch := first | omega | decide) only [go_sem, f0, f1, f2, opn_cond, cellsOf_base, cellsOf_ps, ne_eq, not_true_eq_false]; rfl))
  · intro hc K hK
    have hc2 := hc
    simp only [beq_iff_eq, decide_eq_true_eq, decide_eq_false_iff_not, Bool.or_eq_true, Bool.and_eq_true, Bool.or_eq_false_iff, Bool.and_eq_false_iff] at hc2
    simp (disch := first | omega | decide) only [go_sem, f0, f1, f2, opn_cond, hc, if_true, act_call, List.map, cellsOf_base, cellsOf_ps, ne_eq, not_true_eq_false]
    apply mwp_call_s rfl rfl rfl
    · intro Q hQ
      (simp (disch := first | omega | decide) only [go_sem, f0, f1, f2, opn_cond, hc, if_true, peekL, reifyL_nil, reifyL_cons, reify_v, cellsOf_base, cellsOf_ps, ne_eq, not_true_eq_false]; (exact hQ))
    · exact good_lightS nm ms hm pm
    · simp [-List.map_take, -List.map_drop, -List.map_append, -List.map_replicate, -List.reduceReplicate, noPtrL, noPtr, noPtrL_bsl, noPtrL_map, sub]
    · rfl
    · exact hK _
  apply aops_merge' (by decide) (by exact want_of (d := 18) rfl (by simp (disch := first | omega | decide) only [go_sem, f0, f1, f2, opn_cond, cellsOf_base, cellsOf_ps, ne_eq, not_true_eq_false]; rfl))
  · intro hc K hK
    have hc2 := hc
    simp only [beq_iff_eq, decide_eq_true_eq, decide_eq_false_iff_not, Bool.or_eq_true, Bool.and_eq_true, Bool.or_eq_false_iff, Bool.and_eq_false_iff] at hc2
    simp (disch := first | omega | decide) only [go_sem, f0, f1, f2, opn_cond, hc, if_true, cellsOf_base, cellsOf_ps, ne_eq, not_true_eq_false]
    exact hK _
  iterate 1 (apply aops_step (by decide) rfl; · (intro K hK; simp (disch := first | omega | decide) only [go_sem, f0, f1, f2, cellsOf_base, cellsOf_ps, ne_eq, not_true_eq_false]; exact hK _))
  refine aops_nil ?_
  apply AW.cond
  · simp (disch := first | omega | decide) only [go_sem, f0, f1, f2, cellsOf_base, cellsOf_ps, ne_eq, not_true_eq_false]; rfl
  case ht =>
    intro hb
    try simp only [Bool.or_eq_true, Bool.and_eq_true, Bool.or_eq_false_iff, Bool.and_eq_false_iff, decide_eq_true_eq, decide_eq_false_iff_not] at hb
    have hbt22 := hb
    refine AW.seq ?_
    refine AW.region (cfg := cfg) ?_
    apply aops_step (by decide) rfl
    · intro K hK
      simp (disch := first | omega | decide) only [go_sem, f0, f1, f2, act_call, List.map, cellsOf_base, cellsOf_ps, ne_eq, not_true_eq_false]
      apply mwp_call_s rfl rfl rfl
      · intro Q hQ
        (simp (disch := first | omega | decide) only [go_sem, f0, f1, f2, peekL, reifyL_nil, reifyL_cons, reify_v, cellsOf_base, cellsOf_ps, ne_eq, not_true_eq_false]; (exact hQ))
      · exact good_awake
      · simp [-List.map_take, -List.map_drop, -List.map_append, -List.map_replicate, -List.reduceReplicate, noPtrL, noPtr, noPtrL_bsl, noPtrL_map, sub]
      · rfl
      · exact hK _
    iterate 1 (apply aops_step (by decide) rfl; · (intro K hK; simp (disch := first | omega | decide) only [go_sem, f0, f1, f2, cellsOf_base, cellsOf_ps, ne_eq, not_true_eq_false]; exact hK _))
    refine aops_nil ?_
    refine AW.ret ?_
    refine ⟨.inr rfl, ?_⟩
    apply Exists.intro
    refine leaves_tmp1 6 rfl ?_ (by rfl)
    simp (disch := first | omega | decide) only [go_sem, f0, f1, f2, cellsOf_base, cellsOf_ps, ne_eq, not_true_eq_false]
    all_goals first | done | rfl | trace_state
  case hf =>
    intro hb
    try simp only [Bool.or_eq_true, Bool.and_eq_true, Bool.or_eq_false_iff, Bool.and_eq_false_iff, decide_eq_true_eq, decide_eq_false_iff_not] at hb
    have hbt22 := hb
    refine AW.skip ?_
    refine AW.seq ?_
    obtain ⟨lb0, li1⟩ := light_4 hbt22
    obtain ⟨la1, la2⟩ := lightS_bd li1
    have qm := light_sm la2 pm
    obtain ⟨sm1, sm2⟩ := secR_sm (g := ge) (mark := mk) (most := mo) (b := b)
    have sm3 := secR_ok (g := ge) (mark := mk) (most := mo) (b := b)
    refine AW.region (cfg := cfg) ?_
    apply aops_step (by decide) rfl
    · intro K hK
      simp (disch := first | omega | decide) only [go_sem, f0, f1, f2, act_load_t ti45, List.map, cellsOf_base, cellsOf_ps, ne_eq, not_true_eq_false]
      rw [mwp_load_bs (by simp (disch := first | omega | decide) only [go_sem, f0, f1, f2, cellsOf_base, cellsOf_ps, ne_eq, not_true_eq_false]; rfl) (by simp [setAt])]
      exact hK _
    apply aops_step (by decide) rfl
    · intro K hK
      simp (disch := first | omega | decide) only [go_sem, f0, f1, f2, act_indexAddr_a u46 ti3 (by decide), List.map, cellsOf_base, cellsOf_ps, ne_eq, not_true_eq_false]
      rw [mwp_fieldAddr_b (by simp (disch := first | omega | decide) only [go_sem, f0, f1, f2, cellsOf_base, cellsOf_ps, ne_eq, not_true_eq_false]; rfl)]
      exact hK _
    apply aops_step (by decide) rfl
    · intro K hK
      simp (disch := first | omega | decide) only [go_sem, f0, f1, f2, act_load_t ti3, List.map, cellsOf_base, cellsOf_ps, ne_eq, not_true_eq_false]
      rw [mwp_load_b1 (by simp (disch := first | omega | decide) only [go_sem, f0, f1, f2, cellsOf_base, cellsOf_ps, ne_eq, not_true_eq_false]; rfl) (by rfl)]
      exact hK _
    apply aops_step (by decide) rfl
    · intro K hK
      simp (disch := first | omega | decide) only [go_sem, f0, f1, f2, act_indexAddr_a u46 ti3 (by decide), List.map, cellsOf_base, cellsOf_ps, ne_eq, not_true_eq_false]
      rw [mwp_fieldAddr_b (by simp (disch := first | omega | decide) only [go_sem, f0, f1, f2, cellsOf_base, cellsOf_ps, ne_eq, not_true_eq_false]; rfl)]
      exact hK _
    apply aops_step (by decide) rfl
    · intro K hK
      simp (disch := first | omega | decide) only [go_sem, f0, f1, f2, act_load_t ti3, List.map, cellsOf_base, cellsOf_ps, ne_eq, not_true_eq_false]
      rw [mwp_load_b1 (by simp (disch := first | omega | decide) only [go_sem, f0, f1, f2, cellsOf_base, cellsOf_ps, ne_eq, not_true_eq_false]; rfl) (by rfl)]
      exact hK _
    apply aops_step (by decide) rfl
    · intro K hK
      simp (disch := first | omega | decide) only [go_sem, f0, f1, f2, act_call, List.map, cellsOf_base, cellsOf_ps, ne_eq, not_true_eq_false]
      apply mwp_call_r rfl rfl rfl
      · intro Q hQ
        (simp (disch := first | omega | decide) only [go_sem, f0, f1, f2, peekL, reifyL_nil, reifyL_cons, reify_v, cellsOf_base, cellsOf_ps, ne_eq, not_true_eq_false]; (exact hQ))
      · exact good_Sectors ge mk mo nil b (by omega) hz
      · simp [-List.map_take, -List.map_drop, -List.map_append, -List.map_replicate, -List.reduceReplicate, noPtrL, noPtr, noPtrL_bsl, noPtrL_map, sub]
      · simp (disch := first | omega | decide) only [go_sem, f0, f1, f2, cellsOf_base, cellsOf_ps, ne_eq, not_true_eq_false]
        exact hK _
    iterate 5 (apply aops_step (by decide) rfl; · (intro K hK; simp (disch := first | omega | decide) only [go_sem, f0, f1, f2, cellsOf_base, cellsOf_ps, ne_eq, not_true_eq_false]; exact hK _))
    refine aops_nil ?_
    refine AW.seq ?_
    refine AW.region (cfg := cfg) ?_
    apply aops_step (by decide) rfl
    · intro K hK
      simp (disch := first | omega | decide) only [go_sem, f0, f1, f2, act_load_t ti45, List.map, cellsOf_base, cellsOf_ps, ne_eq, not_true_eq_false]
      rw [mwp_load_bs (by simp (disch := first | omega | decide) only [go_sem, f0, f1, f2, cellsOf_base, cellsOf_ps, ne_eq, not_true_eq_false]; rfl) (by simp [setAt])]
      exact hK _
    apply aops_step (by decide) rfl
    · intro K hK
      simp (disch := first | omega | decide) only [go_sem, f0, f1, f2, act_indexAddr_a u46 ti3 (by decide), List.map, cellsOf_base, cellsOf_ps, ne_eq, not_true_eq_false]
      rw [mwp_fieldAddr_b (by simp (disch := first | omega | decide) only [go_sem, f0, f1, f2, cellsOf_base, cellsOf_ps, ne_eq, not_true_eq_false]; rfl)]
      exact hK _
    apply aops_step (by decide) rfl
    · intro K hK
      simp (disch := first | omega | decide) only [go_sem, f0, f1, f2, act_load_t ti3, List.map, cellsOf_base, cellsOf_ps, ne_eq, not_true_eq_false]
      rw [mwp_load_b1 (by simp (disch := first | omega | decide) only [go_sem, f0, f1, f2, cellsOf_base, cellsOf_ps, ne_eq, not_true_eq_false]; rfl) (by rfl)]
      exact hK _
    apply aops_step (by decide) rfl
    · intro K hK
      simp (disch := first | omega | decide) only [go_sem, f0, f1, f2, act_indexAddr_a u46 ti3 (by decide), List.map, cellsOf_base, cellsOf_ps, ne_eq, not_true_eq_false]
      rw [mwp_fieldAddr_b (by simp (disch := first | omega | decide) only [go_sem, f0, f1, f2, cellsOf_base, cellsOf_ps, ne_eq, not_true_eq_false]; rfl)]
      exact hK _
    apply aops_step (by decide) rfl
    · intro K hK
      simp (disch := first | omega | decide) only [go_sem, f0, f1, f2, act_load_t ti3, List.map, cellsOf_base, cellsOf_ps, ne_eq, not_true_eq_false]
      rw [mwp_load_b1 (by simp (disch := first | omega | decide) only [go_sem, f0, f1, f2, cellsOf_base, cellsOf_ps, ne_eq, not_true_eq_false]; rfl) (by rfl)]
      exact hK _
    apply aops_step (by decide) rfl
    · intro K hK
      simp (disch := first | omega | decide) only [go_sem, f0, f1, f2, act_call, List.map, cellsOf_base, cellsOf_ps, ne_eq, not_true_eq_false]
      apply mwp_call_r rfl rfl rfl
      · intro Q hQ
        (simp (disch := first | omega | decide) only [go_sem, f0, f1, f2, peekL, reifyL_nil, reifyL_cons, reify_v, cellsOf_base, cellsOf_ps, ne_eq, not_true_eq_false]; (exact hQ))
      · exact good_refSectors ge mk mo nil b (by omega) hz
      · simp [-List.map_take, -List.map_drop, -List.map_append, -List.map_replicate, -List.reduceReplicate, noPtrL, noPtr, noPtrL_bsl, noPtrL_map, sub]
      · simp (disch := first | omega | decide) only [go_sem, f0, f1, f2, cellsOf_base, cellsOf_ps, ne_eq, not_true_eq_false]
        exact hK _
    iterate 5 (apply aops_step (by decide) rfl; · (intro K hK; simp (disch := first | omega | decide) only [go_sem, f0, f1, f2, cellsOf_base, cellsOf_ps, ne_eq, not_true_eq_false]; exact hK _))
    refine aops_nil ?_
    refine AW.seq ?_
    refine AW.seq ?_
    refine AW.region (cfg := cfg) ?_
    iterate 10 (apply aops_step (by decide) rfl; · (intro K hK; simp (disch := first | omega | decide) only [go_sem, f0, f1, f2, List.map, List.length_map, aops_len u47, cellsOf_base, cellsOf_ps, ne_eq, not_true_eq_false]; exact hK _))
    refine aops_nil ?_
    apply AW.cond
    · simp (disch := first | omega | decide) only [go_sem, f0, f1, f2, cellsOf_base, cellsOf_ps, ne_eq, not_true_eq_false]; rfl
    case ht => intro hb; simp at hb
    case hf =>
    intro hb
    have hbt51 := hb
    refine AW.skip ?_
    refine AW.seq ?_
    refine AW.seq ?_
    refine AW.region (cfg := cfg) ?_
    iterate 1 (apply aops_step (by decide) rfl; · (intro K hK; simp (disch := first | omega | decide) only [go_sem, f0, f1, f2, cellsOf_base, cellsOf_ps, ne_eq, not_true_eq_false]; exact hK _))
    refine aops_nil ?_
    refine AW.block ?_
    refine AW.forN (fun k σ => ∃ s m, σ = ⟨89, s, m⟩ ∧ s 2 = .v (.sl 1 nm (ms.map pslice)) ∧ s 3 = .lptr (.tmp 3 0) (m.objs (.tmp 3 0)).1 0 ∧ (m.objs (.tmp 3 0)).2 = .box [.v (i64 ge), .v (.sl 1 nil (bsl b))] ∧ s 8 = .v (i64 (secE ge mk mo b)) ∧ s 7 = .v (.sl 1 (!secOK ge mk mo b) ((secR ge mk mo b).map pslice)) ∧ s 9 = .v (.sl 1 (!secOK ge mk mo b) ((secR ge mk mo b).map pslice)) ∧ s 11 = .v (i64 (k : Int)) ∧ (∀ i, (m.objs (.res i)).2 = .dead) ∧ m.G = []) ((secR ge mk mo b).length) ?_ ?_ ?_
    · refine ⟨_, _, rfl, ?_, ?_, ?_, ?_, ?_, ?_, ?_, (by intro i; simp [Mem.set, hr]), (by exact hG)⟩ <;> try simp (disch := first | omega | decide) only [go_sem, f0, f1, f2, cellsOf_base, cellsOf_ps, ne_eq, not_true_eq_false]
      all_goals rfl
    · clear f0 f1 f2 hr hG
      rintro k σ hk ⟨s, m, rfl, f2, f3, o3, f8, f7, f9, f11, hr, hG⟩
      obtain ⟨g3, o3⟩ : ∃ g, m.objs (.tmp 3 0) = (g, .box [.v (i64 ge), .v (.sl 1 nil (bsl b))]) := ⟨_, Prod.ext rfl o3⟩
      rw [o3] at f3
      refine AW.seq ?_
      refine AW.seq ?_
      refine AW.region (cfg := cfg) ?_
      iterate 4 (apply aops_step (by decide) rfl; · (intro K hK; simp (disch := first | omega | decide) only [go_sem, f2, f3, f8, f7, f9, f11, o3, List.map, List.length_map, aops_len u47, cellsOf_base, cellsOf_ps, ne_eq, not_true_eq_false]; exact hK _))
      refine aops_nil ?_
      apply AW.cond
      · simp (disch := first | omega | decide) only [go_sem, f2, f3, f8, f7, f9, f11, o3, cellsOf_base, cellsOf_ps, ne_eq, not_true_eq_false]; rfl
      case hf => intro hb; (simp at hb; omega)
      case ht =>
      intro hb
      have hbt55 := hb
      refine AW.skip ?_
      refine AW.seq ?_
      refine AW.block ?_
      refine AW.seq ?_
      have hkl : k < (secR ge mk mo b).length := hk
      have sm4 := sm3 _ (List.getElem_mem hkl)
      refine AW.draw (cfg := cfg) (by kernel_rfl) (by kernel_rfl) (by kernel_rfl) ?_
      iterate 2 (apply adraw_step rfl; · (intro K hK; simp (disch := first | omega | decide) only [go_sem, f2, f3, f8, f7, f9, f11, o3, cellsOf_base, cellsOf_ps, ne_eq, not_true_eq_false]; exact hK))
      apply adraw_step rfl
      · intro K hK
        simp (disch := first | omega | decide) only [go_sem, f2, f3, f8, f7, f9, f11, o3, act_indexAddr_s u47 ti22, List.map, cellsOf_base, cellsOf_ps, ne_eq, not_true_eq_false]
        skip
        exact hK
      apply adraw_step rfl
      · intro K hK
        simp (disch := first | omega | decide) only [go_sem, f2, f3, f8, f7, f9, f11, o3, act_load_t ti22, List.map, cellsOf_base, cellsOf_ps, ne_eq, not_true_eq_false]
        skip
        exact hK
      iterate 2 (apply adraw_step rfl; · (intro K hK; simp (disch := first | omega | decide) only [go_sem, f2, f3, f8, f7, f9, f11, o3, cellsOf_base, cellsOf_ps, ne_eq, not_true_eq_false]; exact hK))
      apply adraw_step rfl
      · intro K hK
        simp (disch := first | omega | decide) only [go_sem, f2, f3, f8, f7, f9, f11, o3, act_indexAddr_s u47 ti22, List.map, cellsOf_base, cellsOf_ps, ne_eq, not_true_eq_false]
        skip
        exact hK
      apply adraw_step rfl
      · intro K hK
        simp (disch := first | omega | decide) only [go_sem, f2, f3, f8, f7, f9, f11, o3, act_load_t ti22, List.map, cellsOf_base, cellsOf_ps, ne_eq, not_true_eq_false]
        skip
        exact hK
      apply adraw_step rfl
      · intro K hK
        simp (disch := first | omega | decide) only [go_sem, f2, f3, f8, f7, f9, f11, o3, act_call, List.map, cellsOf_base, cellsOf_ps, ne_eq, not_true_eq_false]
        apply mwp_call_s rfl rfl rfl
        · intro Q hQ
          (simp (disch := first | omega | decide) only [go_sem, f2, f3, f8, f7, f9, f11, o3, peekL, reifyL_nil, reifyL_cons, reify_v, cellsOf_base, cellsOf_ps, ne_eq, not_true_eq_false]; (exact hQ))
        · exact O.good_Same (secR ge mk mo b)[k].1 (secR ge mk mo b)[k].1 (secR ge mk mo b)[k].2 (secR ge mk mo b)[k].2 (by omega) (by omega)
        · simp [-List.map_take, -List.map_drop, -List.map_append, -List.map_replicate, -List.reduceReplicate, noPtrL, noPtr, noPtrL_bsl, noPtrL_map, sub]
        · rfl
        · exact hK
      iterate 1 (apply adraw_step rfl; · (intro K hK; simp (disch := first | omega | decide) only [go_sem, f2, f3, f8, f7, f9, f11, o3, cellsOf_base, cellsOf_ps, ne_eq, not_true_eq_false]; exact hK))
      refine adraw_nil (by kernel_rfl) ?_
      apply AW.cond
      · simp (disch := first | omega | decide) only [go_sem, f2, f3, f8, f7, f9, f11, o3, cellsOf_base, cellsOf_ps, ne_eq, not_true_eq_false]; rfl
      case ht => intro hb; simp at hb
      case hf =>
      intro hb
      have hbt67 := hb
      refine AW.skip ?_
      refine AW.region (cfg := cfg) ?_
      iterate 3 (apply aops_step (by decide) rfl; · (intro K hK; simp (disch := first | omega | decide) only [go_sem, f2, f3, f8, f7, f9, f11, o3, cellsOf_base, cellsOf_ps, ne_eq, not_true_eq_false]; exact hK _))
      refine aops_nil ?_
      refine ⟨_, _, rfl, ?_, ?_, ?_, ?_, ?_, ?_, ?_, (by intro i; simp [Mem.set, hr]), (by exact hG)⟩ <;> try simp (disch := first | omega | decide) only [go_sem, f2, f3, f8, f7, f9, f11, o3, cellsOf_base, cellsOf_ps, ne_eq, not_true_eq_false]
      all_goals rfl
    · clear f0 f1 f2 hr hG
      rintro σ ⟨s, m, rfl, f2, f3, o3, f8, f7, f9, f11, hr, hG⟩
      obtain ⟨g3, o3⟩ : ∃ g, m.objs (.tmp 3 0) = (g, .box [.v (i64 ge), .v (.sl 1 nil (bsl b))]) := ⟨_, Prod.ext rfl o3⟩
      rw [o3] at f3
      refine AW.seq ?_
      refine AW.seq ?_
      refine AW.region (cfg := cfg) ?_
      iterate 4 (apply aops_step (by decide) rfl; · (intro K hK; simp (disch := first | omega | decide) only [go_sem, f2, f3, f8, f7, f9, f11, o3, List.map, List.length_map, aops_len u47, cellsOf_base, cellsOf_ps, ne_eq, not_true_eq_false]; exact hK _))
      refine aops_nil ?_
      apply AW.cond
      · simp (disch := first | omega | decide) only [go_sem, f2, f3, f8, f7, f9, f11, o3, cellsOf_base, cellsOf_ps, ne_eq, not_true_eq_false]; rfl
      case ht => intro hb; (simp at hb; done)
      case hf =>
      intro hb
      have hbt55 := hb
      refine AW.exit ?_
      refine AW.seq ?_
      refine AW.seq ?_
      refine AW.region (cfg := cfg) ?_
      iterate 2 (apply aops_step (by decide) rfl; · (intro K hK; simp (disch := first | omega | decide) only [go_sem, f2, f3, f8, f7, f9, f11, o3, cellsOf_base, cellsOf_ps, ne_eq, not_true_eq_false]; exact hK _))
      refine aops_nil ?_
      apply AW.cond
      · simp (disch := first | omega | decide) only [go_sem, f2, f3, f8, f7, f9, f11, o3, cellsOf_base, cellsOf_ps, ne_eq, not_true_eq_false]; rfl
      case ht =>
        intro hb
        try simp only [Bool.or_eq_true, Bool.and_eq_true, Bool.or_eq_false_iff, Bool.and_eq_false_iff, decide_eq_true_eq, decide_eq_false_iff_not] at hb
        have hbt69 := hb
        refine AW.seq ?_
        refine AW.region (cfg := cfg) ?_
        apply aops_step (by decide) rfl
        · intro K hK
          simp (disch := first | omega | decide) only [go_sem, f2, f3, f8, f7, f9, f11, o3, act_call, List.map, cellsOf_base, cellsOf_ps, ne_eq, not_true_eq_false]
          apply mwp_call_s rfl rfl rfl
          · intro Q hQ
            (simp (disch := first | omega | decide) only [go_sem, f2, f3, f8, f7, f9, f11, o3, peekL, reifyL_nil, reifyL_cons, reify_v, cellsOf_base, cellsOf_ps, ne_eq, not_true_eq_false]; (exact hQ))
          · exact good_awake
          · simp [-List.map_take, -List.map_drop, -List.map_append, -List.map_replicate, -List.reduceReplicate, noPtrL, noPtr, noPtrL_bsl, noPtrL_map, sub]
          · rfl
          · exact hK _
        iterate 1 (apply aops_step (by decide) rfl; · (intro K hK; simp (disch := first | omega | decide) only [go_sem, f2, f3, f8, f7, f9, f11, o3, cellsOf_base, cellsOf_ps, ne_eq, not_true_eq_false]; exact hK _))
        refine aops_nil ?_
        refine AW.ret ?_
        refine ⟨.inr rfl, ?_⟩
        apply Exists.intro
        refine leaves_tmp1 6 rfl ?_ (by rfl)
        simp (disch := first | omega | decide) only [go_sem, f2, f3, f8, f7, f9, f11, o3, cellsOf_base, cellsOf_ps, ne_eq, not_true_eq_false]
        all_goals first | done | rfl | trace_state
      case hf =>
        intro hb
        try simp only [Bool.or_eq_true, Bool.and_eq_true, Bool.or_eq_false_iff, Bool.and_eq_false_iff, decide_eq_true_eq, decide_eq_false_iff_not] at hb
        have hbt69 := hb
        refine AW.skip ?_
        refine AW.seq ?_
        have hE0 : secE ge mk mo b = 0 := Decidable.not_not.1 hbt69
        obtain ⟨x1, x2, x3⟩ := sec_load hE0 ms
        refine AW.region (cfg := cfg) ?_
        apply aops_step (by decide) rfl
        · intro K hK
          rw [act_bs el47 ti22]
          (simp [-List.map_take, -List.map_drop, -BitVec.toNat_ofInt, -BitVec.ofInt_natCast, -BitVec.toNat_setWidth, -BitVec.toNat_ushiftRight, -BitVec.toNat_umod, -BitVec.toNat_udiv, go_sem, elems_v, cellishAV, Value.oneCell', isAggAV, partsOf, TI.z, TI.mk1, f2, f3, f8, f7, f9, f11, o3, x1, x2, x3]; exact hK _)
        iterate 1 (apply aops_step (by decide) rfl; · (intro K hK; simp (disch := first | omega | decide) only [go_sem, f2, f3, f8, f7, f9, f11, o3, x1, x2, x3, cellsOf_base, cellsOf_ps, ne_eq, not_true_eq_false]; exact hK _))
        apply aops_step (by decide) rfl
        · intro K hK
          simp (disch := first | omega | decide) only [go_sem, f2, f3, f8, f7, f9, f11, o3, x1, x2, x3, List.map, cellsOf_base, cellsOf_ps, ne_eq, not_true_eq_false]
          apply mwp_append2 el47 ti22 u47
          case hpk => intro Q hQ; exact hQ
          case hs' => rfl
          case ho => simp (disch := first | omega | decide) only [go_sem, f2, f3, f8, f7, f9, f11, o3, x1, x2, x3, cellsOf_base, cellsOf_ps, ne_eq, not_true_eq_false]; rfl
          case hsz => rfl
          case hhi => (simp [List.length_append]; done)
          case hb => (simp only [List.length_cons, List.length_nil, List.length_map, Nat.zero_add, Nat.reduceAdd, roomB]; omega)
          case hy => (intro y hy; exact cells_map (k := 1) (fun _ => rfl) y hy)
          case k => (try simp only [List.nil_append, ← List.map_append, Bool.false_and]); exact hK _
        iterate 1 (apply aops_step (by decide) rfl; · (intro K hK; simp (disch := first | omega | decide) only [go_sem, f2, f3, f8, f7, f9, f11, o3, x1, x2, x3, cellsOf_base, cellsOf_ps, ne_eq, not_true_eq_false]; exact hK _))
        apply aops_step (by decide) rfl
        · intro K hK
          simp (disch := first | omega | decide) only [go_sem, f2, f3, f8, f7, f9, f11, o3, x1, x2, x3, List.map, cellsOf_base, cellsOf_ps, ne_eq, not_true_eq_false]
          apply mwp_append2 el47 ti22 u47
          case hpk => intro Q hQ; exact hQ
          case hs' => rfl
          case ho => simp (disch := first | omega | decide) only [go_sem, f2, f3, f8, f7, f9, f11, o3, x1, x2, x3, cellsOf_base, cellsOf_ps, ne_eq, not_true_eq_false]; rfl
          case hsz => rfl
          case hhi => (simp [List.length_append]; done)
          case hb => (simp only [List.length_cons, List.length_nil, List.length_map, Nat.zero_add, Nat.reduceAdd, roomB]; omega)
          case hy => (intro y hy; exact cells_map (k := 1) (fun _ => rfl) y hy)
          case k => (try simp only [List.nil_append, ← List.map_append, Bool.false_and]); exact hK _
        apply aops_step (by decide) rfl
        · intro K hK
          simp (disch := first | omega | decide) only [go_sem, f2, f3, f8, f7, f9, f11, o3, x1, x2, x3, act_call, List.map, cellsOf_base, cellsOf_ps, ne_eq, not_true_eq_false]
          apply mwp_call_r rfl rfl rfl
          · intro Q hQ
            (simp (disch := first | omega | decide) only [go_sem, f2, f3, f8, f7, f9, f11, o3, x1, x2, x3, peekL, reifyL_nil, reifyL_cons, reify_v, cellsOf_base, cellsOf_ps, ne_eq, not_true_eq_false]; ((((rw [mwp_reify_own (by simp (disch := first | omega | decide) only [go_sem, f2, f3, f8, f7, f9, f11, o3, x1, x2, x3, peekL, reifyL_nil, reifyL_cons, reify_v, cellsOf_base, cellsOf_ps, ne_eq, not_true_eq_false]; rfl)]); (try rw [sub_full (by (simp [List.length_append]; done))])); exact hQ)))
          · exact good_Load false ((secR ge mk mo b) ++ ms) (by rw [List.length_append]; omega) (fun x hx => by rcases List.mem_append.1 hx with h | h; exact sm3 x h; exact qm x h)
          · simp [-List.map_take, -List.map_drop, -List.map_append, -List.map_replicate, -List.reduceReplicate, noPtrL, noPtr, noPtrL_bsl, noPtrL_map, sub]
          · simp (disch := first | omega | decide) only [go_sem, f2, f3, f8, f7, f9, f11, o3, x1, x2, x3, cellsOf_base, cellsOf_ps, ne_eq, not_true_eq_false]
            exact hK _
        iterate 3 (apply aops_step (by decide) rfl; · (intro K hK; simp (disch := first | omega | decide) only [go_sem, f2, f3, f8, f7, f9, f11, o3, x1, x2, x3, cellsOf_base, cellsOf_ps, ne_eq, not_true_eq_false]; exact hK _))
        apply aops_step (by decide) rfl
        · intro K hK
          simp (disch := first | omega | decide) only [go_sem, f2, f3, f8, f7, f9, f11, o3, x1, x2, x3, act_alloc_t ti45, List.map, cellsOf_base, cellsOf_ps, ne_eq, not_true_eq_false]
          exact hK _
        apply aops_step0 rfl
        · intro K hK
          simp (disch := first | omega | decide) only [go_sem, f2, f3, f8, f7, f9, f11, o3, x1, x2, x3, act_store_t ti45, List.map, cellsOf_base, cellsOf_ps, ne_eq, not_true_eq_false]
          rw [mwp_store_c (by simp (disch := first | omega | decide) only [go_sem, f2, f3, f8, f7, f9, f11, o3, x1, x2, x3, cellsOf_base, cellsOf_ps, ne_eq, not_true_eq_false]; rfl) (by rfl) (by rfl) (by rfl) (by simp)]
          try simp only [setAt, cellsL, cellsOf_agg, cellsOf_base, List.map_cons, List.map_nil, List.set_cons_zero, List.set_cons_succ, Nat.reduceAdd, Nat.zero_add, hG]
          exact hK _
        iterate 1 (apply aops_step (by decide) rfl; · (intro K hK; simp (disch := first | omega | decide) only [go_sem, f2, f3, f8, f7, f9, f11, o3, x1, x2, x3, cellsOf_base, cellsOf_ps, ne_eq, not_true_eq_false]; exact hK _))
        refine aops_nil ?_
        refine AW.seq ?_
        refine AW.region (cfg := cfg) ?_
        iterate 2 (apply aops_step (by decide) rfl; · (intro K hK; simp (disch := first | omega | decide) only [go_sem, f2, f3, f8, f7, f9, f11, o3, x1, x2, x3, cellsOf_base, cellsOf_ps, ne_eq, not_true_eq_false]; exact hK _))
        apply aops_step (by decide) rfl
        · intro K hK
          simp (disch := first | omega | decide) only [go_sem, f2, f3, f8, f7, f9, f11, o3, x1, x2, x3, act_load_t ti45, List.map, cellsOf_base, cellsOf_ps, ne_eq, not_true_eq_false]
          rw [mwp_load_bs (by simp (disch := first | omega | decide) only [go_sem, f2, f3, f8, f7, f9, f11, o3, x1, x2, x3, cellsOf_base, cellsOf_ps, ne_eq, not_true_eq_false]; rfl) (by simp [setAt])]
          exact hK _
        apply aops_step (by decide) rfl
        · intro K hK
          simp (disch := first | omega | decide) only [go_sem, f2, f3, f8, f7, f9, f11, o3, x1, x2, x3, act_load_t ti45, List.map, cellsOf_base, cellsOf_ps, ne_eq, not_true_eq_false]
          rw [mwp_load_bs (by simp (disch := first | omega | decide) only [go_sem, f2, f3, f8, f7, f9, f11, o3, x1, x2, x3, cellsOf_base, cellsOf_ps, ne_eq, not_true_eq_false]; rfl) (by simp [setAt])]
          exact hK _
        apply aops_step (by decide) rfl
        · intro K hK
          simp (disch := first | omega | decide) only [go_sem, f2, f3, f8, f7, f9, f11, o3, x1, x2, x3, act_call, List.map, cellsOf_base, cellsOf_ps, ne_eq, not_true_eq_false]
          apply mwp_call_s rfl rfl rfl
          · intro Q hQ
            (simp (disch := first | omega | decide) only [go_sem, f2, f3, f8, f7, f9, f11, o3, x1, x2, x3, peekL, reifyL_nil, reifyL_cons, reify_v, cellsOf_base, cellsOf_ps, ne_eq, not_true_eq_false]; (exact hQ))
          · exact good_SameB ge ge b.isEmpty nil b b (by omega) (by omega)
          · simp [-List.map_take, -List.map_drop, -List.map_append, -List.map_replicate, -List.reduceReplicate, noPtrL, noPtr, noPtrL_bsl, noPtrL_map, sub]
          · rfl
          · exact hK _
        iterate 2 (apply aops_step (by decide) rfl; · (intro K hK; simp (disch := first | omega | decide) only [go_sem, f2, f3, f8, f7, f9, f11, o3, x1, x2, x3, cellsOf_base, cellsOf_ps, ne_eq, not_true_eq_false]; exact hK _))
        apply aops_step (by decide) rfl
        · intro K hK
          simp (disch := first | omega | decide) only [go_sem, f2, f3, f8, f7, f9, f11, o3, x1, x2, x3, act_call, List.map, cellsOf_base, cellsOf_ps, ne_eq, not_true_eq_false]
          apply mwp_call_s rfl rfl rfl
          · intro Q hQ
            (simp (disch := first | omega | decide) only [go_sem, f2, f3, f8, f7, f9, f11, o3, x1, x2, x3, peekL, reifyL_nil, reifyL_cons, reify_v, cellsOf_base, cellsOf_ps, ne_eq, not_true_eq_false]; (exact hQ))
          · exact good_awake
          · simp [-List.map_take, -List.map_drop, -List.map_append, -List.map_replicate, -List.reduceReplicate, noPtrL, noPtr, noPtrL_bsl, noPtrL_map, sub]
          · rfl
          · exact hK _
        iterate 2 (apply aops_step (by decide) rfl; · (intro K hK; simp (disch := first | omega | decide) only [go_sem, f2, f3, f8, f7, f9, f11, o3, x1, x2, x3, cellsOf_base, cellsOf_ps, ne_eq, not_true_eq_false]; exact hK _))
        refine aops_nil ?_
        refine AW.ret ?_
        refine ⟨.inr rfl, ?_⟩
        apply Exists.intro
        refine leaves_tmp1 6 rfl ?_ (by rfl)
        simp (disch := first | omega | decide) only [go_sem, f2, f3, f8, f7, f9, f11, o3, x1, x2, x3, cellsOf_base, cellsOf_ps, ne_eq, not_true_eq_false]
        all_goals first | done | rfl | trace_state

end Go.Vai.S7
