import Derived.Test.YtblgcekomnnfmaagSlot7
namespace Go.Vai.S7
open Go.Proofs Go.Vai Go.Vai.G Go.Vai.L Go.Vai.O Go.Vai.R Go.Vai.U Go.Vai.Z
set_option linter.unusedSimpArgs false
set_option linter.unusedVariables false

theorem tears {g mark most : Int} {b : List (BitVec 8)} (h : secE g mark most b = 0) {n : Bool} {s : List (BitVec 8)} {k : Nat} (hk : k < (secR g mark most b).length) (hs : pgGood s = true → ¬ ((pgV s).gen = g ∧ (pgV s).mark = mark)) :
    slotOK (pagesOf okS valS ((secR g mark most b).set k (n, s))) = false ∨ (k = 0 ∧ pgGood s = true ∧ (pgV s).parts = 1) := by
  obtain ⟨h1, h2, h3, h4⟩ := sec_is h
  obtain ⟨g1, g2⟩ := secL_good h1
  rw [h3] at hk ⊢
  obtain ⟨R, hR⟩ : ∃ R, R = secL g mark b (secN b) := ⟨_, rfl⟩
  rw [← hR] at g1 g2 hk ⊢
  have hN : secN b = (parts (b.length : Int)).toNat := rfl
  have hk2 : k < secN b := by rw [hR, secL_len] at hk; exact hk
  cases e : pgGood s with
  | true =>
    have ha : (R.set k (n, s)).all okS = true := by
      simp only [List.all_eq_true] at g1 ⊢
      intro x hx
      rcases List.mem_or_eq_of_mem_set hx with hx | rfl
      · exact g1 x hx
      · exact e
    rw [pages_full okS valS ha, List.map_set, g2]
    rcases torn_set (p := secP g mark) (q := pgV s) (nil := false) hN hk2 (hs e) with h5 | ⟨h5, h6⟩
    · exact .inl (slot_f0 h5).1
    · exact .inr ⟨h5, rfl, h6⟩
  | false =>
    left
    have hkl : k < (R.set k (n, s)).length := by rw [List.length_set]; exact hk
    have ht : (R.set k (n, s)).take k = R.take k := by rw [List.take_set_of_le (Nat.le_refl _)]
    have hz : (R.take k).all okS = true := by
      simp only [List.all_eq_true] at g1 ⊢
      exact fun x hx => g1 x (List.mem_of_mem_take hx)
    rw [pages_stop okS valS hkl (by rw [ht]; exact hz) (by rw [List.getElem_set_self]; exact e), ht, List.map_take, g2]
    exact (slot_f0 (torn_cut (p := secP g mark) (nil := false) hN hk2)).1
@[simp] theorem noPtrL_tear (l : List PS) (k : Nat) (n : Bool) (s : List (BitVec 8)) : noPtrL ((l.map pslice).set k (AV.sl 1 n (bsl s))) = true := by
  rw [show AV.sl 1 n (bsl s) = pslice (n, s) from rfl, ← List.map_set]; exact noPtrL_pss _
theorem tear_no {g mark : Int} {e : Int} {s : List (BitVec 8)} (h : ¬ e ≠ 0 ∧ ((pgGood s = false ∨ ¬ (pgV s).gen = g) ∨ ¬ (pgV s).mark = mark)) : e = 0 ∧ (pgGood s = true → ¬ ((pgV s).gen = g ∧ (pgV s).mark = mark)) := by
  refine ⟨Decidable.not_not.1 h.1, fun h1 h2 => ?_⟩
  rcases h.2 with (h3 | h3) | h3
  · rw [h1] at h3; cases h3
  · exact h3 h2.1
  · exact h3 h2.2
theorem tear_end {s : List (BitVec 8)} {x : Bool} {k : Nat} (h : x = false ∨ (k = 0 ∧ pgGood s = true ∧ (pgV s).parts = 1)) : (!x || ((decide ((k : Int) = 0) && pgGood s) && decide ((pgV s).parts = 1))) = true := by
  rcases h with h | ⟨h1, h2, h3⟩
  · rw [h]; rfl
  · rw [h1, h2, h3]; simp
set_option maxHeartbeats 4000000 in
set_option maxRecDepth 100000 in
theorem good_SlotTears (ge : Int) (nil : Bool) (b : List (BitVec 8)) (hb0 : b.length ≤ 9223372036854775807) (hz : nil = true → b = []) (mk y : Int) (hy : 0 ≤ y ∧ y ≤ 255) (ns : Bool) (s0 : List (BitVec 8)) (hs0 : s0.length ≤ 9223372036854775807) (hzs : ns = true → s0 = []) : Good Try.prog 6 [(baseA ge nil b, false), (.agg [i64 mk, .i .u8 y, .sl 1 ns (bsl s0)], false)] [] [(.b true, false)] [] := by
  refine good_of_body4 99 Try.func6 rfl rfl rfl (by simp) (by simp) (by simp [noPtrL, noPtr]) (by rfl) ?_
  intro s m ha hr hv hG
  have f0 : s 0 = .v (baseA ge nil b) := ha 0 _ rfl
  have f1 : s 1 = .v (.agg [i64 mk, .i .u8 y, .sl 1 ns (bsl s0)]) := ha 1 _ rfl
  clear ha
  refine AW.seq ?_
  refine AW.region (cfg := cfg) ?_
  apply aops_step (by decide) rfl
  · intro K hK
    simp (disch := first | omega | decide) only [go_sem, f0, f1, act_box_t ti45, List.map, cellsOf_base, cellsOf_ps, cellsOf_page, ne_eq, not_true_eq_false]
    rw [settleL_vish _ _ (by rfl)]
    simp (disch := first | omega | decide) only [go_sem, f0, f1, cellsL, List.map, List.length_cons, List.length_nil, Nat.reduceAdd, if_true, cellsOf_base, cellsOf_ps, cellsOf_page, ne_eq, not_true_eq_false]
    exact hK _
  apply aops_step (by decide) rfl
  · intro K hK
    simp (disch := first | omega | decide) only [go_sem, f0, f1, act_box_t ti56, List.map, cellsOf_base, cellsOf_ps, cellsOf_page, ne_eq, not_true_eq_false]
    rw [settleL_vish _ _ (by rfl)]
    simp (disch := first | omega | decide) only [go_sem, f0, f1, cellsL, List.map, List.length_cons, List.length_nil, Nat.reduceAdd, if_true, cellsOf_base, cellsOf_ps, cellsOf_page, ne_eq, not_true_eq_false]
    exact hK _
  iterate 1 (apply aops_step (by decide) rfl; · (intro K hK; simp (disch := first | omega | decide) only [go_sem, f0, f1, cellsOf_base, cellsOf_ps, cellsOf_page, ne_eq, not_true_eq_false]; exact hK _))
  refine aops_nil ?_
  refine AW.seq ?_
  refine AW.draw (cfg := cfg) (by kernel_rfl) (by kernel_rfl) (by kernel_rfl) ?_
  apply adraw_step rfl
  · intro K hK
    simp (disch := first | omega | decide) only [go_sem, f0, f1, act_fieldAddr_t fo56_0, List.map, cellsOf_base, cellsOf_ps, cellsOf_page, ne_eq, not_true_eq_false]
    rw [mwp_fieldAddr_b (by simp (disch := first | omega | decide) only [go_sem, f0, f1, cellsOf_base, cellsOf_ps, cellsOf_page, ne_eq, not_true_eq_false]; rfl)]
    exact hK
  apply adraw_step rfl
  · intro K hK
    simp (disch := first | omega | decide) only [go_sem, f0, f1, act_load_t ti3, List.map, cellsOf_base, cellsOf_ps, cellsOf_page, ne_eq, not_true_eq_false]
    rw [mwp_load_b1 (by simp (disch := first | omega | decide) only [go_sem, f0, f1, cellsOf_base, cellsOf_ps, cellsOf_page, ne_eq, not_true_eq_false]; rfl) (by rfl)]
    exact hK
  apply adraw_step rfl
  · intro K hK
    simp (disch := first | omega | decide) only [go_sem, f0, f1, act_fieldAddr_t fo56_1, List.map, cellsOf_base, cellsOf_ps, cellsOf_page, ne_eq, not_true_eq_false]
    rw [mwp_fieldAddr_b (by simp (disch := first | omega | decide) only [go_sem, f0, f1, cellsOf_base, cellsOf_ps, cellsOf_page, ne_eq, not_true_eq_false]; rfl)]
    exact hK
  apply adraw_step rfl
  · intro K hK
    simp (disch := first | omega | decide) only [go_sem, f0, f1, act_load_t ti5, List.map, cellsOf_base, cellsOf_ps, cellsOf_page, ne_eq, not_true_eq_false]
    rw [mwp_load_b1 (by simp (disch := first | omega | decide) only [go_sem, f0, f1, cellsOf_base, cellsOf_ps, cellsOf_page, ne_eq, not_true_eq_false]; rfl) (by rfl)]
    exact hK
  apply adraw_step rfl
  · intro K hK
    simp (disch := first | omega | decide) only [go_sem, f0, f1, act_fieldAddr_t fo56_2, List.map, cellsOf_base, cellsOf_ps, cellsOf_page, ne_eq, not_true_eq_false]
    rw [mwp_fieldAddr_b (by simp (disch := first | omega | decide) only [go_sem, f0, f1, cellsOf_base, cellsOf_ps, cellsOf_page, ne_eq, not_true_eq_false]; rfl)]
    exact hK
  apply adraw_step rfl
  · intro K hK
    simp (disch := first | omega | decide) only [go_sem, f0, f1, act_load_t ti22, List.map, cellsOf_base, cellsOf_ps, cellsOf_page, ne_eq, not_true_eq_false]
    rw [mwp_load_b1 (by simp (disch := first | omega | decide) only [go_sem, f0, f1, cellsOf_base, cellsOf_ps, cellsOf_page, ne_eq, not_true_eq_false]; rfl) (by rfl)]
    exact hK
  iterate 3 (apply adraw_step rfl; · (intro K hK; simp (disch := first | omega | decide) only [go_sem, f0, f1, cellsOf_base, cellsOf_ps, cellsOf_page, ne_eq, not_true_eq_false]; exact hK))
  refine adraw_nil (by kernel_rfl) ?_
  refine AW.seq ?_
  refine AW.seq ?_
  refine AW.region (cfg := cfg) ?_
  apply aops_step (by decide) rfl
  · intro K hK
    simp (disch := first | omega | decide) only [go_sem, f0, f1, act_fieldAddr_t fo45_1, List.map, cellsOf_base, cellsOf_ps, cellsOf_page, ne_eq, not_true_eq_false]
    rw [mwp_fieldAddr_b (by simp (disch := first | omega | decide) only [go_sem, f0, f1, cellsOf_base, cellsOf_ps, cellsOf_page, ne_eq, not_true_eq_false]; rfl)]
    exact hK _
  apply aops_step (by decide) rfl
  · intro K hK
    simp (disch := first | omega | decide) only [go_sem, f0, f1, act_load_t ti22, List.map, cellsOf_base, cellsOf_ps, cellsOf_page, ne_eq, not_true_eq_false]
    rw [mwp_load_b1 (by simp (disch := first | omega | decide) only [go_sem, f0, f1, cellsOf_base, cellsOf_ps, cellsOf_page, ne_eq, not_true_eq_false]; rfl) (by rfl)]
    exact hK _
  iterate 3 (apply aops_step (by decide) rfl; · (intro K hK; simp (disch := first | omega | decide) only [go_sem, f0, f1, List.map, List.length_map, aops_len u22, cellsOf_base, cellsOf_ps, cellsOf_page, ne_eq, not_true_eq_false]; exact hK _))
  apply aops_merge' (by decide) (by exact want_of (d := 26) rfl (by simp (disch := first | omega | decide) only [go_sem, f0, f1, opn_cond, cellsOf_base, cellsOf_ps, cellsOf_page, ne_eq, not_true_eq_false]; rfl))
  · intro hc K hK
    have hc2 := hc
    simp only [beq_iff_eq, decide_eq_true_eq, decide_eq_false_iff_not, Bool.or_eq_true, Bool.and_eq_true, Bool.or_eq_false_iff, Bool.and_eq_false_iff] at hc2
    simp (disch := first | omega | decide) only [go_sem, f0, f1, opn_cond, hc, if_true, cellsOf_base, cellsOf_ps, cellsOf_page, ne_eq, not_true_eq_false]
    exact hK _
  apply aops_merge' (by decide) (by exact want_of (d := 26) rfl (by simp (disch := first | omega | decide) only [go_sem, f0, f1, opn_cond, cellsOf_base, cellsOf_ps, cellsOf_page, ne_eq, not_true_eq_false]; rfl))
  · intro hc K hK
    have hc2 := hc
    simp only [beq_iff_eq, decide_eq_true_eq, decide_eq_false_iff_not, Bool.or_eq_true, Bool.and_eq_true, Bool.or_eq_false_iff, Bool.and_eq_false_iff] at hc2
    simp (disch := first | omega | decide) only [go_sem, f0, f1, opn_cond, hc, if_true, List.map, List.length_map, aops_len u22, cellsOf_base, cellsOf_ps, cellsOf_page, ne_eq, not_true_eq_false]
    exact hK _
  apply aops_merge' (by decide) (by exact want_of (d := 26) rfl (by simp (disch := first | omega | decide) only [go_sem, f0, f1, opn_cond, cellsOf_base, cellsOf_ps, cellsOf_page, ne_eq, not_true_eq_false]; rfl))
  · intro hc K hK
    have hc2 := hc
    simp only [beq_iff_eq, decide_eq_true_eq, decide_eq_false_iff_not, Bool.or_eq_true, Bool.and_eq_true, Bool.or_eq_false_iff, Bool.and_eq_false_iff] at hc2
    simp (disch := first | omega | decide) only [go_sem, f0, f1, opn_cond, hc, if_true, cellsOf_base, cellsOf_ps, cellsOf_page, ne_eq, not_true_eq_false]
    exact hK _
  iterate 1 (apply aops_step (by decide) rfl; · (intro K hK; simp (disch := first | omega | decide) only [go_sem, f0, f1, cellsOf_base, cellsOf_ps, cellsOf_page, ne_eq, not_true_eq_false]; exact hK _))
  refine aops_nil ?_
  apply AW.cond
  · simp (disch := first | omega | decide) only [go_sem, f0, f1, cellsOf_base, cellsOf_ps, cellsOf_page, ne_eq, not_true_eq_false]; rfl
  case ht =>
    intro hb
    try simp only [Bool.or_eq_true, Bool.and_eq_true, Bool.or_eq_false_iff, Bool.and_eq_false_iff, decide_eq_true_eq, decide_eq_false_iff_not] at hb
    have hbt30 := hb
    refine AW.seq ?_
    refine AW.region (cfg := cfg) ?_
    apply aops_step (by decide) rfl
    · intro K hK
      simp (disch := first | omega | decide) only [go_sem, f0, f1, act_call, List.map, cellsOf_base, cellsOf_ps, cellsOf_page, ne_eq, not_true_eq_false]
      apply mwp_call_s rfl rfl rfl
      · intro Q hQ
        (simp (disch := first | omega | decide) only [go_sem, f0, f1, peekL, reifyL_nil, reifyL_cons, reify_v, cellsOf_base, cellsOf_ps, cellsOf_page, ne_eq, not_true_eq_false]; (exact hQ))
      · exact good_awake
      · simp [-List.map_take, -List.map_drop, -List.map_append, -List.map_replicate, -List.reduceReplicate, noPtrL, noPtr, noPtrL_bsl, noPtrL_map, noPtrL_tear, sub]
      · rfl
      · exact hK _
    iterate 1 (apply aops_step (by decide) rfl; · (intro K hK; simp (disch := first | omega | decide) only [go_sem, f0, f1, cellsOf_base, cellsOf_ps, cellsOf_page, ne_eq, not_true_eq_false]; exact hK _))
    refine aops_nil ?_
    refine AW.ret ?_
    refine ⟨.inr rfl, ?_⟩
    apply Exists.intro
    refine leaves_tmp1 4 rfl ?_ (by rfl)
    simp (disch := first | omega | decide) only [go_sem, f0, f1, cellsOf_base, cellsOf_ps, cellsOf_page, ne_eq, not_true_eq_false]
    all_goals first | done | rfl | (rw [hte]; done) | trace_state
  case hf =>
    intro hb
    try simp only [Bool.or_eq_true, Bool.and_eq_true, Bool.or_eq_false_iff, Bool.and_eq_false_iff, decide_eq_true_eq, decide_eq_false_iff_not] at hb
    have hbt30 := hb
    refine AW.skip ?_
    refine AW.seq ?_
    have hl8 : ¬ (b.length : Int) > 8000 ∧ ¬ (s0.length : Int) > 600 := hbt30
    refine AW.region (cfg := cfg) ?_
    apply aops_step (by decide) rfl
    · intro K hK
      simp (disch := first | omega | decide) only [go_sem, f0, f1, act_load_t ti45, List.map, cellsOf_base, cellsOf_ps, cellsOf_page, ne_eq, not_true_eq_false]
      rw [mwp_load_bs (by simp (disch := first | omega | decide) only [go_sem, f0, f1, cellsOf_base, cellsOf_ps, cellsOf_page, ne_eq, not_true_eq_false]; rfl) (by simp [setAt])]
      exact hK _
    iterate 1 (apply aops_step (by decide) rfl; · (intro K hK; simp (disch := first | omega | decide) only [go_sem, f0, f1, cellsOf_base, cellsOf_ps, cellsOf_page, ne_eq, not_true_eq_false]; exact hK _))
    apply aops_step (by decide) rfl
    · intro K hK
      simp (disch := first | omega | decide) only [go_sem, f0, f1, act_call, List.map, cellsOf_base, cellsOf_ps, cellsOf_page, ne_eq, not_true_eq_false]
      apply mwp_call_r rfl rfl rfl
      · intro Q hQ
        (simp (disch := first | omega | decide) only [go_sem, f0, f1, peekL, reifyL_nil, reifyL_cons, reify_v, cellsOf_base, cellsOf_ps, cellsOf_page, ne_eq, not_true_eq_false]; (exact hQ))
      · exact good_Sectors ge mk 16 nil b (by omega) hz
      · simp [-List.map_take, -List.map_drop, -List.map_append, -List.map_replicate, -List.reduceReplicate, noPtrL, noPtr, noPtrL_bsl, noPtrL_map, noPtrL_tear, sub]
      · simp (disch := first | omega | decide) only [go_sem, f0, f1, cellsOf_base, cellsOf_ps, cellsOf_page, ne_eq, not_true_eq_false]
        exact hK _
    iterate 5 (apply aops_step (by decide) rfl; · (intro K hK; simp (disch := first | omega | decide) only [go_sem, f0, f1, cellsOf_base, cellsOf_ps, cellsOf_page, ne_eq, not_true_eq_false]; exact hK _))
    refine aops_nil ?_
    refine AW.seq ?_
    refine AW.region (cfg := cfg) ?_
    iterate 1 (apply aops_step (by decide) rfl; · (intro K hK; simp (disch := first | omega | decide) only [go_sem, f0, f1, cellsOf_base, cellsOf_ps, cellsOf_page, ne_eq, not_true_eq_false]; exact hK _))
    apply aops_step (by decide) rfl
    · intro K hK
      simp (disch := first | omega | decide) only [go_sem, f0, f1, act_call, List.map, cellsOf_base, cellsOf_ps, cellsOf_page, ne_eq, not_true_eq_false]
      apply mwp_call_r rfl rfl rfl
      · intro Q hQ
        (simp (disch := first | omega | decide) only [go_sem, f0, f1, peekL, reifyL_nil, reifyL_cons, reify_v, cellsOf_base, cellsOf_ps, cellsOf_page, ne_eq, not_true_eq_false]; (exact hQ))
      · exact good_refGetP ns s0 (by omega) hzs
      · simp [-List.map_take, -List.map_drop, -List.map_append, -List.map_replicate, -List.reduceReplicate, noPtrL, noPtr, noPtrL_bsl, noPtrL_map, noPtrL_tear, sub]
      · simp (disch := first | omega | decide) only [go_sem, f0, f1, cellsOf_base, cellsOf_ps, cellsOf_page, ne_eq, not_true_eq_false]
        exact hK _
    iterate 3 (apply aops_step (by decide) rfl; · (intro K hK; simp (disch := first | omega | decide) only [go_sem, f0, f1, cellsOf_base, cellsOf_ps, cellsOf_page, ne_eq, not_true_eq_false]; exact hK _))
    apply aops_step (by decide) rfl
    · intro K hK
      simp (disch := first | omega | decide) only [go_sem, f0, f1, act_alloc_t ti58, List.map, cellsOf_base, cellsOf_ps, cellsOf_page, ne_eq, not_true_eq_false]
      exact hK _
    apply aops_step0 rfl
    · intro K hK
      simp (disch := first | omega | decide) only [go_sem, f0, f1, act_store_t ti58, List.map, cellsOf_base, cellsOf_ps, cellsOf_page, ne_eq, not_true_eq_false]
      rw [mwp_store_c (by simp (disch := first | omega | decide) only [go_sem, f0, f1, cellsOf_base, cellsOf_ps, cellsOf_page, ne_eq, not_true_eq_false]; rfl) (by rfl) (by rfl) (by rfl) (by simp)]
      try simp only [setAt, cellsL, cellsOf_agg, cellsOf_base, List.map_cons, List.map_nil, List.set_cons_zero, List.set_cons_succ, Nat.reduceAdd, Nat.zero_add, hG]
      exact hK _
    iterate 1 (apply aops_step (by decide) rfl; · (intro K hK; simp (disch := first | omega | decide) only [go_sem, f0, f1, cellsOf_base, cellsOf_ps, cellsOf_page, ne_eq, not_true_eq_false]; exact hK _))
    refine aops_nil ?_
    refine AW.seq ?_
    refine AW.seq ?_
    refine AW.region (cfg := cfg) ?_
    iterate 3 (apply aops_step (by decide) rfl; · (intro K hK; simp (disch := first | omega | decide) only [go_sem, f0, f1, cellsOf_base, cellsOf_ps, cellsOf_page, ne_eq, not_true_eq_false]; exact hK _))
    apply aops_merge' (by decide) (by exact want_of (d := 45) rfl (by simp (disch := first | omega | decide) only [go_sem, f0, f1, opn_cond, cellsOf_base, cellsOf_ps, cellsOf_page, ne_eq, not_true_eq_false]; rfl))
    · intro hc K hK
      have hc2 := hc
      simp only [beq_iff_eq, decide_eq_true_eq, decide_eq_false_iff_not, Bool.or_eq_true, Bool.and_eq_true, Bool.or_eq_false_iff, Bool.and_eq_false_iff] at hc2
      simp (disch := first | omega | decide) only [go_sem, f0, f1, opn_cond, hc, if_true, cellsOf_base, cellsOf_ps, cellsOf_page, ne_eq, not_true_eq_false]
      exact hK _
    apply aops_merge' (by decide) (by exact want_of (d := 45) rfl (by simp (disch := first | omega | decide) only [go_sem, f0, f1, opn_cond, cellsOf_base, cellsOf_ps, cellsOf_page, ne_eq, not_true_eq_false]; rfl))
    · intro hc K hK
      have hc2 := hc
      simp only [beq_iff_eq, decide_eq_true_eq, decide_eq_false_iff_not, Bool.or_eq_true, Bool.and_eq_true, Bool.or_eq_false_iff, Bool.and_eq_false_iff] at hc2
      simp (disch := first | omega | decide) only [go_sem, f0, f1, opn_cond, hc, if_true, cellsOf_base, cellsOf_ps, cellsOf_page, ne_eq, not_true_eq_false]
      exact hK _
    apply aops_merge' (by decide) (by exact want_of_cond (d := 47) rfl (by simp (disch := first | omega | decide) only [go_sem, f0, f1, opn_cond, cellsOf_base, cellsOf_ps, cellsOf_page, ne_eq, not_true_eq_false]; rfl))
    · intro hc K hK
      have hc2 := hc
      simp only [beq_iff_eq, decide_eq_true_eq, decide_eq_false_iff_not, Bool.or_eq_true, Bool.and_eq_true, Bool.or_eq_false_iff, Bool.and_eq_false_iff] at hc2
      simp (disch := first | omega | decide) only [go_sem, f0, f1, opn_cond, hc, if_true, act_fieldAddr_t fo58_1, cellsOf_base, cellsOf_ps, cellsOf_page, ne_eq, not_true_eq_false]
      rw [mwp_fieldAddr_b (by simp (disch := first | omega | decide) only [go_sem, f0, f1, opn_cond, hc, if_true, cellsOf_base, cellsOf_ps, cellsOf_page, ne_eq, not_true_eq_false]; rfl)]
      exact hK _
    apply aops_merge' (by decide) (by exact want_of_cond (d := 47) rfl (by simp (disch := first | omega | decide) only [go_sem, f0, f1, opn_cond, cellsOf_base, cellsOf_ps, cellsOf_page, ne_eq, not_true_eq_false]; rfl))
    · intro hc K hK
      have hc2 := hc
      simp only [beq_iff_eq, decide_eq_true_eq, decide_eq_false_iff_not, Bool.or_eq_true, Bool.and_eq_true, Bool.or_eq_false_iff, Bool.and_eq_false_iff] at hc2
      simp (disch := first | omega | decide) only [go_sem, f0, f1, opn_cond, hc, if_true, act_load_t ti3, cellsOf_base, cellsOf_ps, cellsOf_page, ne_eq, not_true_eq_false]
      rw [mwp_load_b1 (by simp (disch := first | omega | decide) only [go_sem, f0, f1, opn_cond, hc, if_true, cellsOf_base, cellsOf_ps, cellsOf_page, ne_eq, not_true_eq_false]; rfl) (by rfl)]
      exact hK _
    apply aops_merge' (by decide) (by exact want_of_cond (d := 47) rfl (by simp (disch := first | omega | decide) only [go_sem, f0, f1, opn_cond, cellsOf_base, cellsOf_ps, cellsOf_page, ne_eq, not_true_eq_false]; rfl))
    · intro hc K hK
      have hc2 := hc
      simp only [beq_iff_eq, decide_eq_true_eq, decide_eq_false_iff_not, Bool.or_eq_true, Bool.and_eq_true, Bool.or_eq_false_iff, Bool.and_eq_false_iff] at hc2
      simp (disch := first | omega | decide) only [go_sem, f0, f1, opn_cond, hc, if_true, act_fieldAddr_t fo45_0, cellsOf_base, cellsOf_ps, cellsOf_page, ne_eq, not_true_eq_false]
      rw [mwp_fieldAddr_b (by simp (disch := first | omega | decide) only [go_sem, f0, f1, opn_cond, hc, if_true, cellsOf_base, cellsOf_ps, cellsOf_page, ne_eq, not_true_eq_false]; rfl)]
      exact hK _
    apply aops_merge' (by decide) (by exact want_of_cond (d := 47) rfl (by simp (disch := first | omega | decide) only [go_sem, f0, f1, opn_cond, cellsOf_base, cellsOf_ps, cellsOf_page, ne_eq, not_true_eq_false]; rfl))
    · intro hc K hK
      have hc2 := hc
      simp only [beq_iff_eq, decide_eq_true_eq, decide_eq_false_iff_not, Bool.or_eq_true, Bool.and_eq_true, Bool.or_eq_false_iff, Bool.and_eq_false_iff] at hc2
      simp (disch := first | omega | decide) only [go_sem, f0, f1, opn_cond, hc, if_true, act_load_t ti3, cellsOf_base, cellsOf_ps, cellsOf_page, ne_eq, not_true_eq_false]
      rw [mwp_load_b1 (by simp (disch := first | omega | decide) only [go_sem, f0, f1, opn_cond, hc, if_true, cellsOf_base, cellsOf_ps, cellsOf_page, ne_eq, not_true_eq_false]; rfl) (by rfl)]
      exact hK _
    apply aops_merge' (by decide) (by exact want_of_cond (d := 47) rfl (by simp (disch := first | omega | decide) only [go_sem, f0, f1, opn_cond, cellsOf_base, cellsOf_ps, cellsOf_page, ne_eq, not_true_eq_false]; rfl))
    · intro hc K hK
      have hc2 := hc
      simp only [beq_iff_eq, decide_eq_true_eq, decide_eq_false_iff_not, Bool.or_eq_true, Bool.and_eq_true, Bool.or_eq_false_iff, Bool.and_eq_false_iff] at hc2
      simp (disch := first | omega | decide) only [go_sem, f0, f1, opn_cond, hc, if_true, cellsOf_base, cellsOf_ps, cellsOf_page, ne_eq, not_true_eq_false]
      exact hK _
    apply aops_merge' (by decide) (by exact want_of (d := 45) rfl (by simp (disch := first | omega | decide) only [go_sem, f0, f1, opn_cond, cellsOf_base, cellsOf_ps, cellsOf_page, ne_eq, not_true_eq_false]; rfl))
    · intro hc K hK
      have hc2 := hc
      simp only [beq_iff_eq, decide_eq_true_eq, decide_eq_false_iff_not, Bool.or_eq_true, Bool.and_eq_true, Bool.or_eq_false_iff, Bool.and_eq_false_iff] at hc2
      simp (disch := first | omega | decide) only [go_sem, f0, f1, opn_cond, hc, if_true, cellsOf_base, cellsOf_ps, cellsOf_page, ne_eq, not_true_eq_false]
      exact hK _
    apply aops_merge' (by decide) (by exact want_of (d := 45) rfl (by simp (disch := first | omega | decide) only [go_sem, f0, f1, opn_cond, cellsOf_base, cellsOf_ps, cellsOf_page, ne_eq, not_true_eq_false]; rfl))
    · intro hc K hK
      have hc2 := hc
      simp only [beq_iff_eq, decide_eq_true_eq, decide_eq_false_iff_not, Bool.or_eq_true, Bool.and_eq_true, Bool.or_eq_false_iff, Bool.and_eq_false_iff] at hc2
      simp (disch := first | omega | decide) only [go_sem, f0, f1, opn_cond, hc, if_true, cellsOf_base, cellsOf_ps, cellsOf_page, ne_eq, not_true_eq_false]
      exact hK _
    apply aops_merge' (by decide) (by exact want_of_cond (d := 54) rfl (by simp (disch := first | omega | decide) only [go_sem, f0, f1, opn_cond, cellsOf_base, cellsOf_ps, cellsOf_page, ne_eq, not_true_eq_false]; rfl))
    · intro hc K hK
      have hc2 := hc
      simp only [beq_iff_eq, decide_eq_true_eq, decide_eq_false_iff_not, Bool.or_eq_true, Bool.and_eq_true, Bool.or_eq_false_iff, Bool.and_eq_false_iff] at hc2
      simp (disch := first | omega | decide) only [go_sem, f0, f1, opn_cond, hc, if_true, act_fieldAddr_t fo58_2, cellsOf_base, cellsOf_ps, cellsOf_page, ne_eq, not_true_eq_false]
      rw [mwp_fieldAddr_b (by simp (disch := first | omega | decide) only [go_sem, f0, f1, opn_cond, hc, if_true, cellsOf_base, cellsOf_ps, cellsOf_page, ne_eq, not_true_eq_false]; rfl)]
      exact hK _
    apply aops_merge' (by decide) (by exact want_of_cond (d := 54) rfl (by simp (disch := first | omega | decide) only [go_sem, f0, f1, opn_cond, cellsOf_base, cellsOf_ps, cellsOf_page, ne_eq, not_true_eq_false]; rfl))
    · intro hc K hK
      have hc2 := hc
      simp only [beq_iff_eq, decide_eq_true_eq, decide_eq_false_iff_not, Bool.or_eq_true, Bool.and_eq_true, Bool.or_eq_false_iff, Bool.and_eq_false_iff] at hc2
      simp (disch := first | omega | decide) only [go_sem, f0, f1, opn_cond, hc, if_true, act_load_t ti3, cellsOf_base, cellsOf_ps, cellsOf_page, ne_eq, not_true_eq_false]
      rw [mwp_load_b1 (by simp (disch := first | omega | decide) only [go_sem, f0, f1, opn_cond, hc, if_true, cellsOf_base, cellsOf_ps, cellsOf_page, ne_eq, not_true_eq_false]; rfl) (by rfl)]
      exact hK _
    apply aops_merge' (by decide) (by exact want_of_cond (d := 54) rfl (by simp (disch := first | omega | decide) only [go_sem, f0, f1, opn_cond, cellsOf_base, cellsOf_ps, cellsOf_page, ne_eq, not_true_eq_false]; rfl))
    · intro hc K hK
      have hc2 := hc
      simp only [beq_iff_eq, decide_eq_true_eq, decide_eq_false_iff_not, Bool.or_eq_true, Bool.and_eq_true, Bool.or_eq_false_iff, Bool.and_eq_false_iff] at hc2
      simp (disch := first | omega | decide) only [go_sem, f0, f1, opn_cond, hc, if_true, cellsOf_base, cellsOf_ps, cellsOf_page, ne_eq, not_true_eq_false]
      exact hK _
    apply aops_merge' (by decide) (by exact want_of_cond (d := 54) rfl (by simp (disch := first | omega | decide) only [go_sem, f0, f1, opn_cond, cellsOf_base, cellsOf_ps, cellsOf_page, ne_eq, not_true_eq_false]; rfl))
    · intro hc K hK
      have hc2 := hc
      simp only [beq_iff_eq, decide_eq_true_eq, decide_eq_false_iff_not, Bool.or_eq_true, Bool.and_eq_true, Bool.or_eq_false_iff, Bool.and_eq_false_iff] at hc2
      simp (disch := first | omega | decide) only [go_sem, f0, f1, opn_cond, hc, if_true, cellsOf_base, cellsOf_ps, cellsOf_page, ne_eq, not_true_eq_false]
      exact hK _
    apply aops_merge' (by decide) (by exact want_of (d := 45) rfl (by simp (disch := first | omega | decide) only [go_sem, f0, f1, opn_cond, cellsOf_base, cellsOf_ps, cellsOf_page, ne_eq, not_true_eq_false]; rfl))
    · intro hc K hK
      have hc2 := hc
      simp only [beq_iff_eq, decide_eq_true_eq, decide_eq_false_iff_not, Bool.or_eq_true, Bool.and_eq_true, Bool.or_eq_false_iff, Bool.and_eq_false_iff] at hc2
      simp (disch := first | omega | decide) only [go_sem, f0, f1, opn_cond, hc, if_true, cellsOf_base, cellsOf_ps, cellsOf_page, ne_eq, not_true_eq_false]
      exact hK _
    iterate 1 (apply aops_step (by decide) rfl; · (intro K hK; simp (disch := first | omega | decide) only [go_sem, f0, f1, cellsOf_base, cellsOf_ps, cellsOf_page, ne_eq, not_true_eq_false]; exact hK _))
    refine aops_nil ?_
    apply AW.cond
    · simp (disch := first | omega | decide) only [go_sem, f0, f1, cellsOf_base, cellsOf_ps, cellsOf_page, ne_eq, not_true_eq_false]; rfl
    case ht =>
      intro hb
      try simp only [Bool.or_eq_true, Bool.and_eq_true, Bool.or_eq_false_iff, Bool.and_eq_false_iff, decide_eq_true_eq, decide_eq_false_iff_not] at hb
      have hbt60 := hb
      refine AW.seq ?_
      refine AW.region (cfg := cfg) ?_
      apply aops_step (by decide) rfl
      · intro K hK
        simp (disch := first | omega | decide) only [go_sem, f0, f1, act_call, List.map, cellsOf_base, cellsOf_ps, cellsOf_page, ne_eq, not_true_eq_false]
        apply mwp_call_s rfl rfl rfl
        · intro Q hQ
          (simp (disch := first | omega | decide) only [go_sem, f0, f1, peekL, reifyL_nil, reifyL_cons, reify_v, cellsOf_base, cellsOf_ps, cellsOf_page, ne_eq, not_true_eq_false]; (exact hQ))
        · exact good_awake
        · simp [-List.map_take, -List.map_drop, -List.map_append, -List.map_replicate, -List.reduceReplicate, noPtrL, noPtr, noPtrL_bsl, noPtrL_map, noPtrL_tear, sub]
        · rfl
        · exact hK _
      iterate 1 (apply aops_step (by decide) rfl; · (intro K hK; simp (disch := first | omega | decide) only [go_sem, f0, f1, cellsOf_base, cellsOf_ps, cellsOf_page, ne_eq, not_true_eq_false]; exact hK _))
      refine aops_nil ?_
      refine AW.ret ?_
      refine ⟨.inr rfl, ?_⟩
      apply Exists.intro
      refine leaves_tmp1 4 rfl ?_ (by rfl)
      simp (disch := first | omega | decide) only [go_sem, f0, f1, cellsOf_base, cellsOf_ps, cellsOf_page, ne_eq, not_true_eq_false]
      all_goals first | done | rfl | (rw [hte]; done) | trace_state
    case hf =>
      intro hb
      try simp only [Bool.or_eq_true, Bool.and_eq_true, Bool.or_eq_false_iff, Bool.and_eq_false_iff, decide_eq_true_eq, decide_eq_false_iff_not] at hb
      have hbt60 := hb
      refine AW.skip ?_
      refine AW.seq ?_
      refine AW.seq ?_
      obtain ⟨hE0, hsn⟩ := tear_no hbt60
      obtain ⟨z1, z2, z3, z4⟩ := sec_is hE0
      have hn := sp_pos z4
      have hRl : (secR ge mk 16 b).length = secN b := by rw [z3, secL_len]
      have hR0 : 0 < (secR ge mk 16 b).length := (by rw [hRl]; exact hn.2.1)
      have hR1 : (secR ge mk 16 b).length ≤ 16 := (by rw [hRl]; exact hn.2.2)
      have sm3 := secR_ok (g := ge) (mark := mk) (most := 16) (b := b)
      refine AW.region (cfg := cfg) ?_
      iterate 3 (apply aops_step (by decide) rfl; · (intro K hK; simp (disch := first | omega | decide) only [go_sem, f0, f1, List.map, List.length_map, aops_len u47, cellsOf_base, cellsOf_ps, cellsOf_page, ne_eq, not_true_eq_false]; exact hK _))
      refine aops_nil ?_
      apply AW.cond
      · simp (disch := first | omega | decide) only [go_sem, f0, f1, cellsOf_base, cellsOf_ps, cellsOf_page, ne_eq, not_true_eq_false]; rfl
      case ht => intro hb; exact absurd (of_decide_eq_true hb) (by omega)
      case hf =>
      intro hb
      have hbt64 := hb
      refine AW.skip ?_
      refine AW.seq ?_
      obtain ⟨k0, hk0⟩ : ∃ k0 : Nat, y % (((secR ge mk 16 b).length : Nat) : Int) = (k0 : Int) := ⟨(y % (((secR ge mk 16 b).length : Nat) : Int)).toNat, by have := Int.emod_nonneg y (show (((secR ge mk 16 b).length : Nat) : Int) ≠ 0 by omega); omega⟩
      have hk1 : k0 < (secR ge mk 16 b).length := (by have h9 := Int.emod_lt_of_pos y (show 0 < (((secR ge mk 16 b).length : Nat) : Int) by omega); omega)
      refine AW.region (cfg := cfg) ?_
      iterate 6 (apply aops_step (by decide) rfl; · (intro K hK; simp (disch := first | omega | decide) only [go_sem, f0, f1, hk0, act_convI u5 u3, List.map, List.length_map, aops_len u47, cellsOf_base, cellsOf_ps, cellsOf_page, ne_eq, not_true_eq_false]; exact hK _))
      refine aops_nil ?_
      refine AW.seq ?_
      refine AW.region (cfg := cfg) ?_
      apply aops_step (by decide) rfl
      · intro K hK
        rw [act_bs el47 ti22]
        (simp [-List.map_take, -List.map_drop, -BitVec.toNat_ofInt, -BitVec.ofInt_natCast, -BitVec.toNat_setWidth, -BitVec.toNat_ushiftRight, -BitVec.toNat_umod, -BitVec.toNat_udiv, go_sem, elems_v, cellishAV, Value.oneCell', isAggAV, partsOf, TI.z, TI.mk1, f0, f1, hk0]; exact hK _)
      iterate 1 (apply aops_step (by decide) rfl; · (intro K hK; simp (disch := first | omega | decide) only [go_sem, f0, f1, hk0, cellsOf_base, cellsOf_ps, cellsOf_page, ne_eq, not_true_eq_false]; exact hK _))
      apply aops_step (by decide) rfl
      · intro K hK
        simp (disch := first | omega | decide) only [go_sem, f0, f1, hk0, List.map, cellsOf_base, cellsOf_ps, cellsOf_page, ne_eq, not_true_eq_false]
        apply mwp_append2 el47 ti22 u47
        case hpk => intro Q hQ; exact hQ
        case hs' => rfl
        case ho => simp (disch := first | omega | decide) only [go_sem, f0, f1, hk0, cellsOf_base, cellsOf_ps, cellsOf_page, ne_eq, not_true_eq_false]; rfl
        case hsz => rfl
        case hhi => (simp [List.length_append]; done)
        case hb => (simp only [List.length_cons, List.length_nil, List.length_map, Nat.zero_add, Nat.reduceAdd, roomB]; omega)
        case hy => (intro y hy; exact cells_map (k := 1) (fun _ => rfl) y hy)
        case k => (try simp only [List.nil_append, ← List.map_append, Bool.false_and]); exact hK _
      apply aops_step (by decide) rfl
      · intro K hK
        simp (disch := first | omega | decide) only [go_sem, f0, f1, hk0, cellsOf_base, cellsOf_ps, cellsOf_page, ne_eq, not_true_eq_false]
        rw [asg_tmp (by simp (disch := first | omega | decide) only [go_sem, f0, f1, hk0, cellsOf_base, cellsOf_ps, cellsOf_page, ne_eq, not_true_eq_false]; rfl)]
        exact hK _
      refine aops_nil ?_
      refine AW.seq ?_
      refine AW.region (cfg := cfg) ?_
      iterate 3 (apply aops_step (by decide) rfl; · (intro K hK; simp (disch := first | omega | decide) only [go_sem, f0, f1, hk0, cellsOf_base, cellsOf_ps, cellsOf_page, ne_eq, not_true_eq_false]; exact hK _))
      apply aops_step (by decide) rfl
      · intro K hK
        simp (disch := first | omega | decide) only [go_sem, f0, f1, hk0, act_indexAddr_s u47 ti22, List.map, cellsOf_base, cellsOf_ps, cellsOf_page, ne_eq, not_true_eq_false]
        rw [mwp_aIndex_own (by simp (disch := first | omega | decide) only [go_sem, f0, f1, hk0, cellsOf_base, cellsOf_ps, cellsOf_page, ne_eq, not_true_eq_false]; rfl) (by omega) (by (simp [List.length_append]; omega))]
        exact hK _
      apply aops_step0 rfl
      · intro K hK
        simp (disch := first | omega | decide) only [go_sem, f0, f1, hk0, act_store_t ti22, List.map, cellsOf_base, cellsOf_ps, cellsOf_page, ne_eq, not_true_eq_false]
        rw [mwp_aStore_map (by simp (disch := first | omega | decide) only [go_sem, f0, f1, hk0, cellsOf_base, cellsOf_ps, cellsOf_page, ne_eq, not_true_eq_false]; rfl) (by omega) (fun _ => rfl) rfl rfl (fun _ => rfl)]
        try simp only [setAt, cellsL, cellsOf_agg, cellsOf_base, List.map_cons, List.map_nil, List.set_cons_zero, List.set_cons_succ, Nat.reduceAdd, Nat.zero_add, hG]
        exact hK _
      refine aops_nil ?_
      refine AW.seq ?_
      have gL := good_Load false ((secR ge mk 16 b).set k0 (ns, s0)) (by rw [List.length_set]; omega) (fun x hx => by rcases List.mem_or_eq_of_mem_set hx with h | h; exact sm3 x h; subst h; exact ⟨by (show s0.length ≤ _); omega, hzs⟩)
      rw [List.map_set] at gL
      have hte := tear_end (tears hE0 (n := ns) hk1 hsn)
      refine AW.region (cfg := cfg) ?_
      iterate 1 (apply aops_step (by decide) rfl; · (intro K hK; simp (disch := first | omega | decide) only [go_sem, f0, f1, hk0, hte, cellsOf_base, cellsOf_ps, cellsOf_page, ne_eq, not_true_eq_false]; exact hK _))
      apply aops_step (by decide) rfl
      · intro K hK
        simp (disch := first | omega | decide) only [go_sem, f0, f1, hk0, hte, act_call, List.map, cellsOf_base, cellsOf_ps, cellsOf_page, ne_eq, not_true_eq_false]
        apply mwp_call_r rfl rfl rfl
        · intro Q hQ
          (simp (disch := first | omega | decide) only [go_sem, f0, f1, hk0, hte, peekL, reifyL_nil, reifyL_cons, reify_v, cellsOf_base, cellsOf_ps, cellsOf_page, ne_eq, not_true_eq_false]; ((((rw [mwp_reify_own (by simp (disch := first | omega | decide) only [go_sem, f0, f1, hk0, hte, peekL, reifyL_nil, reifyL_cons, reify_v, cellsOf_base, cellsOf_ps, cellsOf_page, ne_eq, not_true_eq_false]; rfl)]); (try rw [sub_full (by (simp [List.length_append]; done))])); exact hQ)))
        · exact gL
        · simp [-List.map_take, -List.map_drop, -List.map_append, -List.map_replicate, -List.reduceReplicate, noPtrL, noPtr, noPtrL_bsl, noPtrL_map, noPtrL_tear, sub]
        · simp (disch := first | omega | decide) only [go_sem, f0, f1, hk0, hte, cellsOf_base, cellsOf_ps, cellsOf_page, ne_eq, not_true_eq_false]
          exact hK _
      iterate 3 (apply aops_step (by decide) rfl; · (intro K hK; simp (disch := first | omega | decide) only [go_sem, f0, f1, hk0, hte, cellsOf_base, cellsOf_ps, cellsOf_page, ne_eq, not_true_eq_false]; exact hK _))
      apply aops_step (by decide) rfl
      · intro K hK
        simp (disch := first | omega | decide) only [go_sem, f0, f1, hk0, hte, act_alloc_t ti45, List.map, cellsOf_base, cellsOf_ps, cellsOf_page, ne_eq, not_true_eq_false]
        exact hK _
      apply aops_step0 rfl
      · intro K hK
        simp (disch := first | omega | decide) only [go_sem, f0, f1, hk0, hte, act_store_t ti45, List.map, cellsOf_base, cellsOf_ps, cellsOf_page, ne_eq, not_true_eq_false]
        rw [mwp_store_c (by simp (disch := first | omega | decide) only [go_sem, f0, f1, hk0, hte, cellsOf_base, cellsOf_ps, cellsOf_page, ne_eq, not_true_eq_false]; rfl) (by rfl) (by rfl) (by rfl) (by simp)]
        try simp only [setAt, cellsL, cellsOf_agg, cellsOf_base, List.map_cons, List.map_nil, List.set_cons_zero, List.set_cons_succ, Nat.reduceAdd, Nat.zero_add, hG]
        exact hK _
      iterate 1 (apply aops_step (by decide) rfl; · (intro K hK; simp (disch := first | omega | decide) only [go_sem, f0, f1, hk0, hte, cellsOf_base, cellsOf_ps, cellsOf_page, ne_eq, not_true_eq_false]; exact hK _))
      refine aops_nil ?_
      refine AW.seq ?_
      refine AW.region (cfg := cfg) ?_
      iterate 3 (apply aops_step (by decide) rfl; · (intro K hK; simp (disch := first | omega | decide) only [go_sem, f0, f1, hk0, hte, cellsOf_base, cellsOf_ps, cellsOf_page, ne_eq, not_true_eq_false]; exact hK _))
      apply aops_merge' (by decide) (by exact want_of (d := 84) rfl (by simp (disch := first | omega | decide) only [go_sem, f0, f1, hk0, hte, opn_cond, cellsOf_base, cellsOf_ps, cellsOf_page, ne_eq, not_true_eq_false]; rfl))
      · intro hc K hK
        have hc2 := hc
        simp only [beq_iff_eq, decide_eq_true_eq, decide_eq_false_iff_not, Bool.or_eq_true, Bool.and_eq_true, Bool.or_eq_false_iff, Bool.and_eq_false_iff] at hc2
        simp (disch := first | omega | decide) only [go_sem, f0, f1, hk0, hte, opn_cond, hc, if_true, cellsOf_base, cellsOf_ps, cellsOf_page, ne_eq, not_true_eq_false]
        exact hK _
      apply aops_merge' (by decide) (by exact want_of (d := 84) rfl (by simp (disch := first | omega | decide) only [go_sem, f0, f1, hk0, hte, opn_cond, cellsOf_base, cellsOf_ps, cellsOf_page, ne_eq, not_true_eq_false]; rfl))
      · intro hc K hK
        have hc2 := hc
        simp only [beq_iff_eq, decide_eq_true_eq, decide_eq_false_iff_not, Bool.or_eq_true, Bool.and_eq_true, Bool.or_eq_false_iff, Bool.and_eq_false_iff] at hc2
        simp (disch := first | omega | decide) only [go_sem, f0, f1, hk0, hte, opn_cond, hc, if_true, cellsOf_base, cellsOf_ps, cellsOf_page, ne_eq, not_true_eq_false]
        exact hK _
      apply aops_merge' (by decide) (by exact want_of (d := 84) rfl (by simp (disch := first | omega | decide) only [go_sem, f0, f1, hk0, hte, opn_cond, cellsOf_base, cellsOf_ps, cellsOf_page, ne_eq, not_true_eq_false]; rfl))
      · intro hc K hK
        have hc2 := hc
        simp only [beq_iff_eq, decide_eq_true_eq, decide_eq_false_iff_not, Bool.or_eq_true, Bool.and_eq_true, Bool.or_eq_false_iff, Bool.and_eq_false_iff] at hc2
        simp (disch := first | omega | decide) only [go_sem, f0, f1, hk0, hte, opn_cond, hc, if_true, cellsOf_base, cellsOf_ps, cellsOf_page, ne_eq, not_true_eq_false]
        exact hK _
      apply aops_merge' (by decide) (by exact want_of_cond (d := 87) rfl (by simp (disch := first | omega | decide) only [go_sem, f0, f1, hk0, hte, opn_cond, cellsOf_base, cellsOf_ps, cellsOf_page, ne_eq, not_true_eq_false]; rfl))
      · intro hc K hK
        have hc2 := hc
        simp only [beq_iff_eq, decide_eq_true_eq, decide_eq_false_iff_not, Bool.or_eq_true, Bool.and_eq_true, Bool.or_eq_false_iff, Bool.and_eq_false_iff] at hc2
        simp (disch := first | omega | decide) only [go_sem, f0, f1, hk0, hte, opn_cond, hc, if_true, cellsOf_base, cellsOf_ps, cellsOf_page, ne_eq, not_true_eq_false]
        exact hK _
      apply aops_merge' (by decide) (by exact want_of (d := 84) rfl (by simp (disch := first | omega | decide) only [go_sem, f0, f1, hk0, hte, opn_cond, cellsOf_base, cellsOf_ps, cellsOf_page, ne_eq, not_true_eq_false]; rfl))
      · intro hc K hK
        have hc2 := hc
        simp only [beq_iff_eq, decide_eq_true_eq, decide_eq_false_iff_not, Bool.or_eq_true, Bool.and_eq_true, Bool.or_eq_false_iff, Bool.and_eq_false_iff] at hc2
        simp (disch := first | omega | decide) only [go_sem, f0, f1, hk0, hte, opn_cond, hc, if_true, cellsOf_base, cellsOf_ps, cellsOf_page, ne_eq, not_true_eq_false]
        exact hK _
      apply aops_merge' (by decide) (by exact want_of (d := 84) rfl (by simp (disch := first | omega | decide) only [go_sem, f0, f1, hk0, hte, opn_cond, cellsOf_base, cellsOf_ps, cellsOf_page, ne_eq, not_true_eq_false]; rfl))
      · intro hc K hK
        have hc2 := hc
        simp only [beq_iff_eq, decide_eq_true_eq, decide_eq_false_iff_not, Bool.or_eq_true, Bool.and_eq_true, Bool.or_eq_false_iff, Bool.and_eq_false_iff] at hc2
        simp (disch := first | omega | decide) only [go_sem, f0, f1, hk0, hte, opn_cond, hc, if_true, cellsOf_base, cellsOf_ps, cellsOf_page, ne_eq, not_true_eq_false]
        exact hK _
      apply aops_merge' (by decide) (by exact want_of_cond (d := 90) rfl (by simp (disch := first | omega | decide) only [go_sem, f0, f1, hk0, hte, opn_cond, cellsOf_base, cellsOf_ps, cellsOf_page, ne_eq, not_true_eq_false]; rfl))
      · intro hc K hK
        have hc2 := hc
        simp only [beq_iff_eq, decide_eq_true_eq, decide_eq_false_iff_not, Bool.or_eq_true, Bool.and_eq_true, Bool.or_eq_false_iff, Bool.and_eq_false_iff] at hc2
        simp (disch := first | omega | decide) only [go_sem, f0, f1, hk0, hte, opn_cond, hc, if_true, act_fieldAddr_t fo58_5, cellsOf_base, cellsOf_ps, cellsOf_page, ne_eq, not_true_eq_false]
        rw [mwp_fieldAddr_b (by simp (disch := first | omega | decide) only [go_sem, f0, f1, hk0, hte, opn_cond, hc, if_true, cellsOf_base, cellsOf_ps, cellsOf_page, ne_eq, not_true_eq_false]; rfl)]
        exact hK _
      apply aops_merge' (by decide) (by exact want_of_cond (d := 90) rfl (by simp (disch := first | omega | decide) only [go_sem, f0, f1, hk0, hte, opn_cond, cellsOf_base, cellsOf_ps, cellsOf_page, ne_eq, not_true_eq_false]; rfl))
      · intro hc K hK
        have hc2 := hc
        simp only [beq_iff_eq, decide_eq_true_eq, decide_eq_false_iff_not, Bool.or_eq_true, Bool.and_eq_true, Bool.or_eq_false_iff, Bool.and_eq_false_iff] at hc2
        simp (disch := first | omega | decide) only [go_sem, f0, f1, hk0, hte, opn_cond, hc, if_true, act_load_t ti3, cellsOf_base, cellsOf_ps, cellsOf_page, ne_eq, not_true_eq_false]
        rw [mwp_load_b1 (by simp (disch := first | omega | decide) only [go_sem, f0, f1, hk0, hte, opn_cond, hc, if_true, cellsOf_base, cellsOf_ps, cellsOf_page, ne_eq, not_true_eq_false]; rfl) (by rfl)]
        exact hK _
      apply aops_merge' (by decide) (by exact want_of_cond (d := 90) rfl (by simp (disch := first | omega | decide) only [go_sem, f0, f1, hk0, hte, opn_cond, cellsOf_base, cellsOf_ps, cellsOf_page, ne_eq, not_true_eq_false]; rfl))
      · intro hc K hK
        have hc2 := hc
        simp only [beq_iff_eq, decide_eq_true_eq, decide_eq_false_iff_not, Bool.or_eq_true, Bool.and_eq_true, Bool.or_eq_false_iff, Bool.and_eq_false_iff] at hc2
        simp (disch := first | omega | decide) only [go_sem, f0, f1, hk0, hte, opn_cond, hc, if_true, cellsOf_base, cellsOf_ps, cellsOf_page, ne_eq, not_true_eq_false]
        exact hK _
      apply aops_merge' (by decide) (by exact want_of (d := 84) rfl (by simp (disch := first | omega | decide) only [go_sem, f0, f1, hk0, hte, opn_cond, cellsOf_base, cellsOf_ps, cellsOf_page, ne_eq, not_true_eq_false]; rfl))
      · intro hc K hK
        have hc2 := hc
        simp only [beq_iff_eq, decide_eq_true_eq, decide_eq_false_iff_not, Bool.or_eq_true, Bool.and_eq_true, Bool.or_eq_false_iff, Bool.and_eq_false_iff] at hc2
        simp (disch := first | omega | decide) only [go_sem, f0, f1, hk0, hte, opn_cond, hc, if_true, cellsOf_base, cellsOf_ps, cellsOf_page, ne_eq, not_true_eq_false]
        exact hK _
      iterate 2 (apply aops_step (by decide) rfl; · (intro K hK; simp (disch := first | omega | decide) only [go_sem, f0, f1, hk0, hte, cellsOf_base, cellsOf_ps, cellsOf_page, ne_eq, not_true_eq_false]; exact hK _))
      apply aops_merge' (by decide) (by exact want_of (d := 96) rfl (by simp (disch := first | omega | decide) only [go_sem, f0, f1, hk0, hte, opn_cond, cellsOf_base, cellsOf_ps, cellsOf_page, ne_eq, not_true_eq_false]; rfl))
      · intro hc K hK
        have hc2 := hc
        simp only [beq_iff_eq, decide_eq_true_eq, decide_eq_false_iff_not, Bool.or_eq_true, Bool.and_eq_true, Bool.or_eq_false_iff, Bool.and_eq_false_iff] at hc2
        simp (disch := first | omega | decide) only [go_sem, f0, f1, hk0, hte, opn_cond, hc, if_true, act_call, List.map, cellsOf_base, cellsOf_ps, cellsOf_page, ne_eq, not_true_eq_false]
        apply mwp_call_s rfl rfl rfl
        · intro Q hQ
          (simp (disch := first | omega | decide) only [go_sem, f0, f1, hk0, hte, opn_cond, hc, if_true, peekL, reifyL_nil, reifyL_cons, reify_v, cellsOf_base, cellsOf_ps, cellsOf_page, ne_eq, not_true_eq_false]; (exact hQ))
        · exact good_awake
        · simp [-List.map_take, -List.map_drop, -List.map_append, -List.map_replicate, -List.reduceReplicate, noPtrL, noPtr, noPtrL_bsl, noPtrL_map, noPtrL_tear, sub]
        · rfl
        · exact hK _
      iterate 2 (apply aops_step (by decide) rfl; · (intro K hK; simp (disch := first | omega | decide) only [go_sem, f0, f1, hk0, hte, cellsOf_base, cellsOf_ps, cellsOf_page, ne_eq, not_true_eq_false]; exact hK _))
      refine aops_nil ?_
      refine AW.ret ?_
      refine ⟨.inr rfl, ?_⟩
      apply Exists.intro
      refine leaves_tmp1 4 rfl ?_ (by rfl)
      simp (disch := first | omega | decide) only [go_sem, f0, f1, hk0, hte, cellsOf_base, cellsOf_ps, cellsOf_page, ne_eq, not_true_eq_false]
      all_goals rfl

end Go.Vai.S7
