import Derived.Test.YtompjoadhhjddaabRec6
namespace Go.Vai.R
open Go.Proofs Go.Vai Go.Vai.G Go.Vai.L Go.Vai.O Go.Vai.U Go.Vai.Z
set_option linter.unusedSimpArgs false
set_option linter.unusedVariables false

theorem splitE_0 {p : Page} {nil : Bool} {b : List (BitVec 8)} (h : ¬ splitE p b ≠ 0) : ¬ parts (b.length : Int) = 0 ∧ splitOK p b = true ∧ splitL p nil b = splitP p nil b (parts (b.length : Int)).toNat := by
  have h : splitE p b = 0 := Decidable.not_not.1 h
  have h0 : ¬ parts (b.length : Int) = 0 := fun e => by rw [splitE, if_pos e] at h; cases h
  have h1 : splitOK p b = true := by
    cases e : splitOK p b with
    | true => rfl
    | false => rw [splitE, if_neg h0, e] at h; cases h
  exact ⟨h0, h1, by rw [splitL, h1]; rfl⟩
theorem mix_in {α : Type} (X Y : List α) (a k : Nat) (h : a + k < Y.length) : X ++ (Y.take (a + k)).drop a ++ [Y[a + k]] = X ++ (Y.take (a + (k + 1))).drop a := by
  rw [← Nat.add_assoc, List.take_succ_eq_append_getElem h, List.drop_append_of_le_length (by simp; omega), List.append_assoc]
theorem mix_out {α : Type} (X Y : List α) (a k : Nat) (h : ¬ a + k < Y.length) : X ++ (Y.take (a + k)).drop a = X ++ (Y.take (a + (k + 1))).drop a := by
  rw [List.take_of_length_le (by omega), List.take_of_length_le (by omega)]
theorem mix_end {α : Type} (X Y : List α) (a n : Nat) (h : Y.length ≤ a + n) : X ++ (Y.take (a + n)).drop a = X ++ Y.drop a := by
  rw [List.take_of_length_le h]
theorem mix_0 {α : Type} (X Y : List α) (a : Nat) : X ++ (Y.take (a + 0)).drop a = X := by simp
set_option maxHeartbeats 4000000 in
set_option maxRecDepth 100000 in
theorem good_RecordMixes (p : Page) (hp : p.b.length ≤ 9223372036854775807) (hxp : -9223372036854775808 ≤ p.idx ∧ p.idx ≤ 9223372036854775807)(q : Page) (hq : q.b.length ≤ 9223372036854775807) (hxq : -9223372036854775808 ≤ q.idx ∧ q.idx ≤ 9223372036854775807) (n1 : Bool) (a : List (BitVec 8)) (ha0 : a.length ≤ 9223372036854775807) (hza : n1 = true → a = []) (n2 : Bool) (c : List (BitVec 8)) (hc0 : c.length ≤ 9223372036854775807) (hzc : n2 = true → c = []) (y : Int) (hy : 0 ≤ y ∧ y ≤ 255) : Good Try.prog 8 [(pageA p, false), (pageA q, false), (.agg [.sl 1 n1 (bsl a), .sl 1 n2 (bsl c), .i .u8 y], false)] [] [(.b true, false)] [] := by
  refine good_of_body4 132 Try.func8 rfl rfl rfl (by simp) (by simp) (by simp [noPtrL, noPtr]) (by rfl) ?_
  intro s m ha hr hv hG
  have f0 : s 0 = .v (.agg [i64 p.kind, i64 p.gen, i64 p.mark, i64 p.idx, i64 p.part, i64 p.parts, .sl 1 p.nil (bsl p.b)]) := ha 0 _ rfl
  have f1 : s 1 = .v (.agg [i64 q.kind, i64 q.gen, i64 q.mark, i64 q.idx, i64 q.part, i64 q.parts, .sl 1 q.nil (bsl q.b)]) := ha 1 _ rfl
  have f2 : s 2 = .v (.agg [.sl 1 n1 (bsl a), .sl 1 n2 (bsl c), .i .u8 y]) := ha 2 _ rfl
  clear ha
  refine AW.seq ?_
  refine AW.region (cfg := cfg) ?_
  apply aops_step (by decide) rfl
  · intro K hK
    simp (disch := first | omega | decide) only [go_sem, f0, f1, f2, act_box_t ti47, List.map, cellsOf_page, ne_eq, not_true_eq_false]
    rw [settleL_vish _ _ (by rfl)]
    simp (disch := first | omega | decide) only [go_sem, f0, f1, f2, cellsL, List.map, List.length_cons, List.length_nil, Nat.reduceAdd, if_true, cellsOf_page, ne_eq, not_true_eq_false]
    exact hK _
  apply aops_step (by decide) rfl
  · intro K hK
    simp (disch := first | omega | decide) only [go_sem, f0, f1, f2, act_box_t ti47, List.map, cellsOf_page, ne_eq, not_true_eq_false]
    rw [settleL_vish _ _ (by rfl)]
    simp (disch := first | omega | decide) only [go_sem, f0, f1, f2, cellsL, List.map, List.length_cons, List.length_nil, Nat.reduceAdd, if_true, cellsOf_page, ne_eq, not_true_eq_false]
    exact hK _
  apply aops_step (by decide) rfl
  · intro K hK
    simp (disch := first | omega | decide) only [go_sem, f0, f1, f2, act_box_t ti63, List.map, cellsOf_page, ne_eq, not_true_eq_false]
    rw [settleL_vish _ _ (by rfl)]
    simp (disch := first | omega | decide) only [go_sem, f0, f1, f2, cellsL, List.map, List.length_cons, List.length_nil, Nat.reduceAdd, if_true, cellsOf_page, ne_eq, not_true_eq_false]
    exact hK _
  iterate 1 (apply aops_step (by decide) rfl; · (intro K hK; simp (disch := first | omega | decide) only [go_sem, f0, f1, f2, cellsOf_page, ne_eq, not_true_eq_false]; exact hK _))
  refine aops_nil ?_
  refine AW.seq ?_
  refine AW.draw (cfg := cfg) (by kernel_rfl) (by kernel_rfl) (by kernel_rfl) ?_
  apply adraw_step rfl
  · intro K hK
    simp (disch := first | omega | decide) only [go_sem, f0, f1, f2, act_fieldAddr_t fo63_0, List.map, cellsOf_page, ne_eq, not_true_eq_false]
    rw [mwp_fieldAddr_b (by simp (disch := first | omega | decide) only [go_sem, f0, f1, f2, cellsOf_page, ne_eq, not_true_eq_false]; rfl)]
    exact hK
  apply adraw_step rfl
  · intro K hK
    simp (disch := first | omega | decide) only [go_sem, f0, f1, f2, act_load_t ti25, List.map, cellsOf_page, ne_eq, not_true_eq_false]
    rw [mwp_load_b1 (by simp (disch := first | omega | decide) only [go_sem, f0, f1, f2, cellsOf_page, ne_eq, not_true_eq_false]; rfl) (by rfl)]
    exact hK
  apply adraw_step rfl
  · intro K hK
    simp (disch := first | omega | decide) only [go_sem, f0, f1, f2, act_fieldAddr_t fo63_1, List.map, cellsOf_page, ne_eq, not_true_eq_false]
    rw [mwp_fieldAddr_b (by simp (disch := first | omega | decide) only [go_sem, f0, f1, f2, cellsOf_page, ne_eq, not_true_eq_false]; rfl)]
    exact hK
  apply adraw_step rfl
  · intro K hK
    simp (disch := first | omega | decide) only [go_sem, f0, f1, f2, act_load_t ti25, List.map, cellsOf_page, ne_eq, not_true_eq_false]
    rw [mwp_load_b1 (by simp (disch := first | omega | decide) only [go_sem, f0, f1, f2, cellsOf_page, ne_eq, not_true_eq_false]; rfl) (by rfl)]
    exact hK
  apply adraw_step rfl
  · intro K hK
    simp (disch := first | omega | decide) only [go_sem, f0, f1, f2, act_fieldAddr_t fo63_2, List.map, cellsOf_page, ne_eq, not_true_eq_false]
    rw [mwp_fieldAddr_b (by simp (disch := first | omega | decide) only [go_sem, f0, f1, f2, cellsOf_page, ne_eq, not_true_eq_false]; rfl)]
    exact hK
  apply adraw_step rfl
  · intro K hK
    simp (disch := first | omega | decide) only [go_sem, f0, f1, f2, act_load_t ti5, List.map, cellsOf_page, ne_eq, not_true_eq_false]
    rw [mwp_load_b1 (by simp (disch := first | omega | decide) only [go_sem, f0, f1, f2, cellsOf_page, ne_eq, not_true_eq_false]; rfl) (by rfl)]
    exact hK
  iterate 3 (apply adraw_step rfl; · (intro K hK; simp (disch := first | omega | decide) only [go_sem, f0, f1, f2, cellsOf_page, ne_eq, not_true_eq_false]; exact hK))
  refine adraw_nil (by kernel_rfl) ?_
  refine AW.seq ?_
  refine AW.seq ?_
  refine AW.region (cfg := cfg) ?_
  iterate 4 (apply aops_step (by decide) rfl; · (intro K hK; simp (disch := first | omega | decide) only [go_sem, f0, f1, f2, List.map, List.length_map, aops_len u25, cellsOf_page, ne_eq, not_true_eq_false]; exact hK _))
  apply aops_merge' (by decide) (by exact want_of (d := 29) rfl (by simp (disch := first | omega | decide) only [go_sem, f0, f1, f2, opn_cond, cellsOf_page, ne_eq, not_true_eq_false]; rfl))
  · intro hc K hK
    have hc2 := hc
    simp only [beq_iff_eq, decide_eq_true_eq, decide_eq_false_iff_not, Bool.or_eq_true, Bool.and_eq_true, Bool.or_eq_false_iff, Bool.and_eq_false_iff] at hc2
    simp (disch := first | omega | decide) only [go_sem, f0, f1, f2, opn_cond, hc, if_true, cellsOf_page, ne_eq, not_true_eq_false]
    exact hK _
  apply aops_merge' (by decide) (by exact want_of (d := 29) rfl (by simp (disch := first | omega | decide) only [go_sem, f0, f1, f2, opn_cond, cellsOf_page, ne_eq, not_true_eq_false]; rfl))
  · intro hc K hK
    have hc2 := hc
    simp only [beq_iff_eq, decide_eq_true_eq, decide_eq_false_iff_not, Bool.or_eq_true, Bool.and_eq_true, Bool.or_eq_false_iff, Bool.and_eq_false_iff] at hc2
    simp (disch := first | omega | decide) only [go_sem, f0, f1, f2, opn_cond, hc, if_true, List.map, List.length_map, aops_len u25, cellsOf_page, ne_eq, not_true_eq_false]
    exact hK _
  apply aops_merge' (by decide) (by exact want_of (d := 29) rfl (by simp (disch := first | omega | decide) only [go_sem, f0, f1, f2, opn_cond, cellsOf_page, ne_eq, not_true_eq_false]; rfl))
  · intro hc K hK
    have hc2 := hc
    simp only [beq_iff_eq, decide_eq_true_eq, decide_eq_false_iff_not, Bool.or_eq_true, Bool.and_eq_true, Bool.or_eq_false_iff, Bool.and_eq_false_iff] at hc2
    simp (disch := first | omega | decide) only [go_sem, f0, f1, f2, opn_cond, hc, if_true, cellsOf_page, ne_eq, not_true_eq_false]
    exact hK _
  iterate 2 (apply aops_step (by decide) rfl; · (intro K hK; simp (disch := first | omega | decide) only [go_sem, f0, f1, f2, cellsOf_page, ne_eq, not_true_eq_false]; exact hK _))
  apply aops_merge' (by decide) (by exact want_of (d := 34) rfl (by simp (disch := first | omega | decide) only [go_sem, f0, f1, f2, opn_cond, cellsOf_page, ne_eq, not_true_eq_false]; rfl))
  · intro hc K hK
    have hc2 := hc
    simp only [beq_iff_eq, decide_eq_true_eq, decide_eq_false_iff_not, Bool.or_eq_true, Bool.and_eq_true, Bool.or_eq_false_iff, Bool.and_eq_false_iff] at hc2
    simp (disch := first | omega | decide) only [go_sem, f0, f1, f2, opn_cond, hc, if_true, act_fieldAddr_t fo47_6, cellsOf_page, ne_eq, not_true_eq_false]
    rw [mwp_fieldAddr_b (by simp (disch := first | omega | decide) only [go_sem, f0, f1, f2, opn_cond, hc, if_true, cellsOf_page, ne_eq, not_true_eq_false]; rfl)]
    exact hK _
  apply aops_merge' (by decide) (by exact want_of (d := 34) rfl (by simp (disch := first | omega | decide) only [go_sem, f0, f1, f2, opn_cond, cellsOf_page, ne_eq, not_true_eq_false]; rfl))
  · intro hc K hK
    have hc2 := hc
    simp only [beq_iff_eq, decide_eq_true_eq, decide_eq_false_iff_not, Bool.or_eq_true, Bool.and_eq_true, Bool.or_eq_false_iff, Bool.and_eq_false_iff] at hc2
    simp (disch := first | omega | decide) only [go_sem, f0, f1, f2, opn_cond, hc, if_true, act_load_t ti25, cellsOf_page, ne_eq, not_true_eq_false]
    rw [mwp_load_b1 (by simp (disch := first | omega | decide) only [go_sem, f0, f1, f2, opn_cond, hc, if_true, cellsOf_page, ne_eq, not_true_eq_false]; rfl) (by rfl)]
    exact hK _
  apply aops_merge' (by decide) (by exact want_of (d := 34) rfl (by simp (disch := first | omega | decide) only [go_sem, f0, f1, f2, opn_cond, cellsOf_page, ne_eq, not_true_eq_false]; rfl))
  · intro hc K hK
    have hc2 := hc
    simp only [beq_iff_eq, decide_eq_true_eq, decide_eq_false_iff_not, Bool.or_eq_true, Bool.and_eq_true, Bool.or_eq_false_iff, Bool.and_eq_false_iff] at hc2
    simp (disch := first | omega | decide) only [go_sem, f0, f1, f2, opn_cond, hc, if_true, List.map, List.length_map, aops_len u25, cellsOf_page, ne_eq, not_true_eq_false]
    exact hK _
  apply aops_merge' (by decide) (by exact want_of (d := 34) rfl (by simp (disch := first | omega | decide) only [go_sem, f0, f1, f2, opn_cond, cellsOf_page, ne_eq, not_true_eq_false]; rfl))
  · intro hc K hK
    have hc2 := hc
    simp only [beq_iff_eq, decide_eq_true_eq, decide_eq_false_iff_not, Bool.or_eq_true, Bool.and_eq_true, Bool.or_eq_false_iff, Bool.and_eq_false_iff] at hc2
    simp (disch := first | omega | decide) only [go_sem, f0, f1, f2, opn_cond, hc, if_true, cellsOf_page, ne_eq, not_true_eq_false]
    exact hK _
  iterate 2 (apply aops_step (by decide) rfl; · (intro K hK; simp (disch := first | omega | decide) only [go_sem, f0, f1, f2, cellsOf_page, ne_eq, not_true_eq_false]; exact hK _))
  apply aops_merge' (by decide) (by exact want_of (d := 40) rfl (by simp (disch := first | omega | decide) only [go_sem, f0, f1, f2, opn_cond, cellsOf_page, ne_eq, not_true_eq_false]; rfl))
  · intro hc K hK
    have hc2 := hc
    simp only [beq_iff_eq, decide_eq_true_eq, decide_eq_false_iff_not, Bool.or_eq_true, Bool.and_eq_true, Bool.or_eq_false_iff, Bool.and_eq_false_iff] at hc2
    simp (disch := first | omega | decide) only [go_sem, f0, f1, f2, opn_cond, hc, if_true, act_fieldAddr_t fo47_6, cellsOf_page, ne_eq, not_true_eq_false]
    rw [mwp_fieldAddr_b (by simp (disch := first | omega | decide) only [go_sem, f0, f1, f2, opn_cond, hc, if_true, cellsOf_page, ne_eq, not_true_eq_false]; rfl)]
    exact hK _
  apply aops_merge' (by decide) (by exact want_of (d := 40) rfl (by simp (disch := first | omega | decide) only [go_sem, f0, f1, f2, opn_cond, cellsOf_page, ne_eq, not_true_eq_false]; rfl))
  · intro hc K hK
    have hc2 := hc
    simp only [beq_iff_eq, decide_eq_true_eq, decide_eq_false_iff_not, Bool.or_eq_true, Bool.and_eq_true, Bool.or_eq_false_iff, Bool.and_eq_false_iff] at hc2
    simp (disch := first | omega | decide) only [go_sem, f0, f1, f2, opn_cond, hc, if_true, act_load_t ti25, cellsOf_page, ne_eq, not_true_eq_false]
    rw [mwp_load_b1 (by simp (disch := first | omega | decide) only [go_sem, f0, f1, f2, opn_cond, hc, if_true, cellsOf_page, ne_eq, not_true_eq_false]; rfl) (by rfl)]
    exact hK _
  apply aops_merge' (by decide) (by exact want_of (d := 40) rfl (by simp (disch := first | omega | decide) only [go_sem, f0, f1, f2, opn_cond, cellsOf_page, ne_eq, not_true_eq_false]; rfl))
  · intro hc K hK
    have hc2 := hc
    simp only [beq_iff_eq, decide_eq_true_eq, decide_eq_false_iff_not, Bool.or_eq_true, Bool.and_eq_true, Bool.or_eq_false_iff, Bool.and_eq_false_iff] at hc2
    simp (disch := first | omega | decide) only [go_sem, f0, f1, f2, opn_cond, hc, if_true, List.map, List.length_map, aops_len u25, cellsOf_page, ne_eq, not_true_eq_false]
    exact hK _
  apply aops_merge' (by decide) (by exact want_of (d := 40) rfl (by simp (disch := first | omega | decide) only [go_sem, f0, f1, f2, opn_cond, cellsOf_page, ne_eq, not_true_eq_false]; rfl))
  · intro hc K hK
    have hc2 := hc
    simp only [beq_iff_eq, decide_eq_true_eq, decide_eq_false_iff_not, Bool.or_eq_true, Bool.and_eq_true, Bool.or_eq_false_iff, Bool.and_eq_false_iff] at hc2
    simp (disch := first | omega | decide) only [go_sem, f0, f1, f2, opn_cond, hc, if_true, cellsOf_page, ne_eq, not_true_eq_false]
    exact hK _
  iterate 1 (apply aops_step (by decide) rfl; · (intro K hK; simp (disch := first | omega | decide) only [go_sem, f0, f1, f2, cellsOf_page, ne_eq, not_true_eq_false]; exact hK _))
  refine aops_nil ?_
  apply AW.cond
  · simp (disch := first | omega | decide) only [go_sem, f0, f1, f2, cellsOf_page, ne_eq, not_true_eq_false]; rfl
  case ht =>
    intro hb
    try simp only [Bool.or_eq_true, Bool.and_eq_true, Bool.or_eq_false_iff, Bool.and_eq_false_iff, decide_eq_true_eq, decide_eq_false_iff_not] at hb
    have hbt45 := hb
    refine AW.seq ?_
    refine AW.region (cfg := cfg) ?_
    apply aops_step (by decide) rfl
    · intro K hK
      simp (disch := first | omega | decide) only [go_sem, f0, f1, f2, act_call, List.map, cellsOf_page, ne_eq, not_true_eq_false]
      apply mwp_call_s rfl rfl rfl
      · intro Q hQ
        (simp (disch := first | omega | decide) only [go_sem, f0, f1, f2, peekL, reifyL_nil, reifyL_cons, reify_v, cellsOf_page, ne_eq, not_true_eq_false]; (exact hQ))
      · exact good_awake
      · simp [-List.map_take, -List.map_drop, -List.map_append, -List.map_replicate, -List.reduceReplicate, noPtrL, noPtr, noPtrL_bsl, noPtrL_map, sub]
      · rfl
      · exact hK _
    iterate 1 (apply aops_step (by decide) rfl; · (intro K hK; simp (disch := first | omega | decide) only [go_sem, f0, f1, f2, cellsOf_page, ne_eq, not_true_eq_false]; exact hK _))
    refine aops_nil ?_
    refine AW.ret ?_
    refine ⟨.inr rfl, ?_⟩
    apply Exists.intro
    refine leaves_tmp1 6 rfl ?_ (by rfl)
    simp (disch := first | omega | decide) only [go_sem, f0, f1, f2, cellsOf_page, ne_eq, not_true_eq_false]
    all_goals first | done | rfl | trace_state
  case hf =>
    intro hb
    try simp only [Bool.or_eq_true, Bool.and_eq_true, Bool.or_eq_false_iff, Bool.and_eq_false_iff, decide_eq_true_eq, decide_eq_false_iff_not] at hb
    have hbt45 := hb
    refine AW.skip ?_
    refine AW.seq ?_
    refine AW.region (cfg := cfg) ?_
    apply aops_step (by decide) rfl
    · intro K hK
      simp (disch := first | omega | decide) only [go_sem, f0, f1, f2, act_load_t ti47, List.map, cellsOf_page, ne_eq, not_true_eq_false]
      rw [mwp_load_bs (by simp (disch := first | omega | decide) only [go_sem, f0, f1, f2, cellsOf_page, ne_eq, not_true_eq_false]; rfl) (by simp [setAt])]
      exact hK _
    iterate 1 (apply aops_step (by decide) rfl; · (intro K hK; simp (disch := first | omega | decide) only [go_sem, f0, f1, f2, cellsOf_page, ne_eq, not_true_eq_false]; exact hK _))
    apply aops_step (by decide) rfl
    · intro K hK
      simp (disch := first | omega | decide) only [go_sem, f0, f1, f2, act_call, List.map, cellsOf_page, ne_eq, not_true_eq_false]
      apply mwp_call_r rfl rfl rfl
      · intro Q hQ
        (simp (disch := first | omega | decide) only [go_sem, f0, f1, f2, peekL, reifyL_nil, reifyL_cons, reify_v, cellsOf_page, ne_eq, not_true_eq_false]; (exact hQ))
      · exact (good_Split p (by omega) n1 a (by omega) hza).lend2
      · simp [-List.map_take, -List.map_drop, -List.map_append, -List.map_replicate, -List.reduceReplicate, noPtrL, noPtr, noPtrL_bsl, noPtrL_map, sub]
      · simp (disch := first | omega | decide) only [go_sem, f0, f1, f2, cellsOf_page, ne_eq, not_true_eq_false]
        exact hK _
    iterate 5 (apply aops_step (by decide) rfl; · (intro K hK; simp (disch := first | omega | decide) only [go_sem, f0, f1, f2, cellsOf_page, ne_eq, not_true_eq_false]; exact hK _))
    refine aops_nil ?_
    refine AW.seq ?_
    refine AW.region (cfg := cfg) ?_
    apply aops_step (by decide) rfl
    · intro K hK
      simp (disch := first | omega | decide) only [go_sem, f0, f1, f2, act_load_t ti47, List.map, cellsOf_page, ne_eq, not_true_eq_false]
      rw [mwp_load_bs (by simp (disch := first | omega | decide) only [go_sem, f0, f1, f2, cellsOf_page, ne_eq, not_true_eq_false]; rfl) (by simp [setAt])]
      exact hK _
    iterate 1 (apply aops_step (by decide) rfl; · (intro K hK; simp (disch := first | omega | decide) only [go_sem, f0, f1, f2, cellsOf_page, ne_eq, not_true_eq_false]; exact hK _))
    apply aops_step (by decide) rfl
    · intro K hK
      simp (disch := first | omega | decide) only [go_sem, f0, f1, f2, act_call, List.map, cellsOf_page, ne_eq, not_true_eq_false]
      apply mwp_call_r rfl rfl rfl
      · intro Q hQ
        (simp (disch := first | omega | decide) only [go_sem, f0, f1, f2, peekL, reifyL_nil, reifyL_cons, reify_v, cellsOf_page, ne_eq, not_true_eq_false]; (exact hQ))
      · exact (good_Split q (by omega) n2 c (by omega) hzc).lend2
      · simp [-List.map_take, -List.map_drop, -List.map_append, -List.map_replicate, -List.reduceReplicate, noPtrL, noPtr, noPtrL_bsl, noPtrL_map, sub]
      · simp (disch := first | omega | decide) only [go_sem, f0, f1, f2, cellsOf_page, ne_eq, not_true_eq_false]
        exact hK _
    iterate 5 (apply aops_step (by decide) rfl; · (intro K hK; simp (disch := first | omega | decide) only [go_sem, f0, f1, f2, cellsOf_page, ne_eq, not_true_eq_false]; exact hK _))
    refine aops_nil ?_
    refine AW.seq ?_
    refine AW.seq ?_
    refine AW.region (cfg := cfg) ?_
    iterate 3 (apply aops_step (by decide) rfl; · (intro K hK; simp (disch := first | omega | decide) only [go_sem, f0, f1, f2, cellsOf_page, ne_eq, not_true_eq_false]; exact hK _))
    apply aops_merge' (by decide) (by exact want_of (d := 61) rfl (by simp (disch := first | omega | decide) only [go_sem, f0, f1, f2, opn_cond, cellsOf_page, ne_eq, not_true_eq_false]; rfl))
    · intro hc K hK
      have hc2 := hc
      simp only [beq_iff_eq, decide_eq_true_eq, decide_eq_false_iff_not, Bool.or_eq_true, Bool.and_eq_true, Bool.or_eq_false_iff, Bool.and_eq_false_iff] at hc2
      simp (disch := first | omega | decide) only [go_sem, f0, f1, f2, opn_cond, hc, if_true, cellsOf_page, ne_eq, not_true_eq_false]
      exact hK _
    apply aops_merge' (by decide) (by exact want_of (d := 61) rfl (by simp (disch := first | omega | decide) only [go_sem, f0, f1, f2, opn_cond, cellsOf_page, ne_eq, not_true_eq_false]; rfl))
    · intro hc K hK
      have hc2 := hc
      simp only [beq_iff_eq, decide_eq_true_eq, decide_eq_false_iff_not, Bool.or_eq_true, Bool.and_eq_true, Bool.or_eq_false_iff, Bool.and_eq_false_iff] at hc2
      simp (disch := first | omega | decide) only [go_sem, f0, f1, f2, opn_cond, hc, if_true, cellsOf_page, ne_eq, not_true_eq_false]
      exact hK _
    iterate 2 (apply aops_step (by decide) rfl; · (intro K hK; simp (disch := first | omega | decide) only [go_sem, f0, f1, f2, cellsOf_page, ne_eq, not_true_eq_false]; exact hK _))
    apply aops_merge' (by decide) (by exact want_of (d := 65) rfl (by simp (disch := first | omega | decide) only [go_sem, f0, f1, f2, opn_cond, cellsOf_page, ne_eq, not_true_eq_false]; rfl))
    · intro hc K hK
      have hc2 := hc
      simp only [beq_iff_eq, decide_eq_true_eq, decide_eq_false_iff_not, Bool.or_eq_true, Bool.and_eq_true, Bool.or_eq_false_iff, Bool.and_eq_false_iff] at hc2
      simp (disch := first | omega | decide) only [go_sem, f0, f1, f2, opn_cond, hc, if_true, act_fieldAddr_t fo47_1, cellsOf_page, ne_eq, not_true_eq_false]
      rw [mwp_fieldAddr_b (by simp (disch := first | omega | decide) only [go_sem, f0, f1, f2, opn_cond, hc, if_true, cellsOf_page, ne_eq, not_true_eq_false]; rfl)]
      exact hK _
    apply aops_merge' (by decide) (by exact want_of (d := 65) rfl (by simp (disch := first | omega | decide) only [go_sem, f0, f1, f2, opn_cond, cellsOf_page, ne_eq, not_true_eq_false]; rfl))
    · intro hc K hK
      have hc2 := hc
      simp only [beq_iff_eq, decide_eq_true_eq, decide_eq_false_iff_not, Bool.or_eq_true, Bool.and_eq_true, Bool.or_eq_false_iff, Bool.and_eq_false_iff] at hc2
      simp (disch := first | omega | decide) only [go_sem, f0, f1, f2, opn_cond, hc, if_true, act_load_t ti3, cellsOf_page, ne_eq, not_true_eq_false]
      rw [mwp_load_b1 (by simp (disch := first | omega | decide) only [go_sem, f0, f1, f2, opn_cond, hc, if_true, cellsOf_page, ne_eq, not_true_eq_false]; rfl) (by rfl)]
      exact hK _
    apply aops_merge' (by decide) (by exact want_of (d := 65) rfl (by simp (disch := first | omega | decide) only [go_sem, f0, f1, f2, opn_cond, cellsOf_page, ne_eq, not_true_eq_false]; rfl))
    · intro hc K hK
      have hc2 := hc
      simp only [beq_iff_eq, decide_eq_true_eq, decide_eq_false_iff_not, Bool.or_eq_true, Bool.and_eq_true, Bool.or_eq_false_iff, Bool.and_eq_false_iff] at hc2
      simp (disch := first | omega | decide) only [go_sem, f0, f1, f2, opn_cond, hc, if_true, act_fieldAddr_t fo47_1, cellsOf_page, ne_eq, not_true_eq_false]
      rw [mwp_fieldAddr_b (by simp (disch := first | omega | decide) only [go_sem, f0, f1, f2, opn_cond, hc, if_true, cellsOf_page, ne_eq, not_true_eq_false]; rfl)]
      exact hK _
    apply aops_merge' (by decide) (by exact want_of (d := 65) rfl (by simp (disch := first | omega | decide) only [go_sem, f0, f1, f2, opn_cond, cellsOf_page, ne_eq, not_true_eq_false]; rfl))
    · intro hc K hK
      have hc2 := hc
      simp only [beq_iff_eq, decide_eq_true_eq, decide_eq_false_iff_not, Bool.or_eq_true, Bool.and_eq_true, Bool.or_eq_false_iff, Bool.and_eq_false_iff] at hc2
      simp (disch := first | omega | decide) only [go_sem, f0, f1, f2, opn_cond, hc, if_true, act_load_t ti3, cellsOf_page, ne_eq, not_true_eq_false]
      rw [mwp_load_b1 (by simp (disch := first | omega | decide) only [go_sem, f0, f1, f2, opn_cond, hc, if_true, cellsOf_page, ne_eq, not_true_eq_false]; rfl) (by rfl)]
      exact hK _
    apply aops_merge' (by decide) (by exact want_of (d := 65) rfl (by simp (disch := first | omega | decide) only [go_sem, f0, f1, f2, opn_cond, cellsOf_page, ne_eq, not_true_eq_false]; rfl))
    · intro hc K hK
      have hc2 := hc
      simp only [beq_iff_eq, decide_eq_true_eq, decide_eq_false_iff_not, Bool.or_eq_true, Bool.and_eq_true, Bool.or_eq_false_iff, Bool.and_eq_false_iff] at hc2
      simp (disch := first | omega | decide) only [go_sem, f0, f1, f2, opn_cond, hc, if_true, cellsOf_page, ne_eq, not_true_eq_false]
      exact hK _
    apply aops_merge' (by decide) (by exact want_of (d := 65) rfl (by simp (disch := first | omega | decide) only [go_sem, f0, f1, f2, opn_cond, cellsOf_page, ne_eq, not_true_eq_false]; rfl))
    · intro hc K hK
      have hc2 := hc
      simp only [beq_iff_eq, decide_eq_true_eq, decide_eq_false_iff_not, Bool.or_eq_true, Bool.and_eq_true, Bool.or_eq_false_iff, Bool.and_eq_false_iff] at hc2
      simp (disch := first | omega | decide) only [go_sem, f0, f1, f2, opn_cond, hc, if_true, cellsOf_page, ne_eq, not_true_eq_false]
      exact hK _
    apply aops_merge' (by decide) (by exact want_of_cond (d := 71) rfl (by simp (disch := first | omega | decide) only [go_sem, f0, f1, f2, opn_cond, cellsOf_page, ne_eq, not_true_eq_false]; rfl))
    · intro hc K hK
      have hc2 := hc
      simp only [beq_iff_eq, decide_eq_true_eq, decide_eq_false_iff_not, Bool.or_eq_true, Bool.and_eq_true, Bool.or_eq_false_iff, Bool.and_eq_false_iff] at hc2
      simp (disch := first | omega | decide) only [go_sem, f0, f1, f2, opn_cond, hc, if_true, act_fieldAddr_t fo47_2, cellsOf_page, ne_eq, not_true_eq_false]
      rw [mwp_fieldAddr_b (by simp (disch := first | omega | decide) only [go_sem, f0, f1, f2, opn_cond, hc, if_true, cellsOf_page, ne_eq, not_true_eq_false]; rfl)]
      exact hK _
    apply aops_merge' (by decide) (by exact want_of_cond (d := 71) rfl (by simp (disch := first | omega | decide) only [go_sem, f0, f1, f2, opn_cond, cellsOf_page, ne_eq, not_true_eq_false]; rfl))
    · intro hc K hK
      have hc2 := hc
      simp only [beq_iff_eq, decide_eq_true_eq, decide_eq_false_iff_not, Bool.or_eq_true, Bool.and_eq_true, Bool.or_eq_false_iff, Bool.and_eq_false_iff] at hc2
      simp (disch := first | omega | decide) only [go_sem, f0, f1, f2, opn_cond, hc, if_true, act_load_t ti3, cellsOf_page, ne_eq, not_true_eq_false]
      rw [mwp_load_b1 (by simp (disch := first | omega | decide) only [go_sem, f0, f1, f2, opn_cond, hc, if_true, cellsOf_page, ne_eq, not_true_eq_false]; rfl) (by rfl)]
      exact hK _
    apply aops_merge' (by decide) (by exact want_of_cond (d := 71) rfl (by simp (disch := first | omega | decide) only [go_sem, f0, f1, f2, opn_cond, cellsOf_page, ne_eq, not_true_eq_false]; rfl))
    · intro hc K hK
      have hc2 := hc
      simp only [beq_iff_eq, decide_eq_true_eq, decide_eq_false_iff_not, Bool.or_eq_true, Bool.and_eq_true, Bool.or_eq_false_iff, Bool.and_eq_false_iff] at hc2
      simp (disch := first | omega | decide) only [go_sem, f0, f1, f2, opn_cond, hc, if_true, act_fieldAddr_t fo47_2, cellsOf_page, ne_eq, not_true_eq_false]
      rw [mwp_fieldAddr_b (by simp (disch := first | omega | decide) only [go_sem, f0, f1, f2, opn_cond, hc, if_true, cellsOf_page, ne_eq, not_true_eq_false]; rfl)]
      exact hK _
    apply aops_merge' (by decide) (by exact want_of_cond (d := 71) rfl (by simp (disch := first | omega | decide) only [go_sem, f0, f1, f2, opn_cond, cellsOf_page, ne_eq, not_true_eq_false]; rfl))
    · intro hc K hK
      have hc2 := hc
      simp only [beq_iff_eq, decide_eq_true_eq, decide_eq_false_iff_not, Bool.or_eq_true, Bool.and_eq_true, Bool.or_eq_false_iff, Bool.and_eq_false_iff] at hc2
      simp (disch := first | omega | decide) only [go_sem, f0, f1, f2, opn_cond, hc, if_true, act_load_t ti3, cellsOf_page, ne_eq, not_true_eq_false]
      rw [mwp_load_b1 (by simp (disch := first | omega | decide) only [go_sem, f0, f1, f2, opn_cond, hc, if_true, cellsOf_page, ne_eq, not_true_eq_false]; rfl) (by rfl)]
      exact hK _
    apply aops_merge' (by decide) (by exact want_of_cond (d := 71) rfl (by simp (disch := first | omega | decide) only [go_sem, f0, f1, f2, opn_cond, cellsOf_page, ne_eq, not_true_eq_false]; rfl))
    · intro hc K hK
      have hc2 := hc
      simp only [beq_iff_eq, decide_eq_true_eq, decide_eq_false_iff_not, Bool.or_eq_true, Bool.and_eq_true, Bool.or_eq_false_iff, Bool.and_eq_false_iff] at hc2
      simp (disch := first | omega | decide) only [go_sem, f0, f1, f2, opn_cond, hc, if_true, cellsOf_page, ne_eq, not_true_eq_false]
      exact hK _
    apply aops_merge' (by decide) (by exact want_of (d := 65) rfl (by simp (disch := first | omega | decide) only [go_sem, f0, f1, f2, opn_cond, cellsOf_page, ne_eq, not_true_eq_false]; rfl))
    · intro hc K hK
      have hc2 := hc
      simp only [beq_iff_eq, decide_eq_true_eq, decide_eq_false_iff_not, Bool.or_eq_true, Bool.and_eq_true, Bool.or_eq_false_iff, Bool.and_eq_false_iff] at hc2
      simp (disch := first | omega | decide) only [go_sem, f0, f1, f2, opn_cond, hc, if_true, cellsOf_page, ne_eq, not_true_eq_false]
      exact hK _
    iterate 2 (apply aops_step (by decide) rfl; · (intro K hK; simp (disch := first | omega | decide) only [go_sem, f0, f1, f2, cellsOf_page, ne_eq, not_true_eq_false]; exact hK _))
    apply aops_merge' (by decide) (by exact want_of (d := 79) rfl (by simp (disch := first | omega | decide) only [go_sem, f0, f1, f2, opn_cond, cellsOf_page, ne_eq, not_true_eq_false]; rfl))
    · intro hc K hK
      have hc2 := hc
      simp only [beq_iff_eq, decide_eq_true_eq, decide_eq_false_iff_not, Bool.or_eq_true, Bool.and_eq_true, Bool.or_eq_false_iff, Bool.and_eq_false_iff] at hc2
      simp (disch := first | omega | decide) only [go_sem, f0, f1, f2, opn_cond, hc, if_true, cellsOf_page, ne_eq, not_true_eq_false]
      exact hK _
    apply aops_merge' (by decide) (by exact want_of (d := 79) rfl (by simp (disch := first | omega | decide) only [go_sem, f0, f1, f2, opn_cond, cellsOf_page, ne_eq, not_true_eq_false]; rfl))
    · intro hc K hK
      have hc2 := hc
      simp only [beq_iff_eq, decide_eq_true_eq, decide_eq_false_iff_not, Bool.or_eq_true, Bool.and_eq_true, Bool.or_eq_false_iff, Bool.and_eq_false_iff] at hc2
      simp (disch := first | omega | decide) only [go_sem, f0, f1, f2, opn_cond, hc, if_true, List.map, List.length_map, aops_len u48, cellsOf_page, ne_eq, not_true_eq_false]
      exact hK _
    apply aops_merge' (by decide) (by exact want_of (d := 79) rfl (by simp (disch := first | omega | decide) only [go_sem, f0, f1, f2, opn_cond, cellsOf_page, ne_eq, not_true_eq_false]; rfl))
    · intro hc K hK
      have hc2 := hc
      simp only [beq_iff_eq, decide_eq_true_eq, decide_eq_false_iff_not, Bool.or_eq_true, Bool.and_eq_true, Bool.or_eq_false_iff, Bool.and_eq_false_iff] at hc2
      simp (disch := first | omega | decide) only [go_sem, f0, f1, f2, opn_cond, hc, if_true, cellsOf_page, ne_eq, not_true_eq_false]
      exact hK _
    iterate 1 (apply aops_step (by decide) rfl; · (intro K hK; simp (disch := first | omega | decide) only [go_sem, f0, f1, f2, cellsOf_page, ne_eq, not_true_eq_false]; exact hK _))
    refine aops_nil ?_
    apply AW.cond
    · simp (disch := first | omega | decide) only [go_sem, f0, f1, f2, cellsOf_page, ne_eq, not_true_eq_false]; rfl
    case ht =>
      intro hb
      try simp only [Bool.or_eq_true, Bool.and_eq_true, Bool.or_eq_false_iff, Bool.and_eq_false_iff, decide_eq_true_eq, decide_eq_false_iff_not] at hb
      have hbt83 := hb
      refine AW.seq ?_
      have lt0 := trivial
      refine AW.region (cfg := cfg) ?_
      apply aops_step (by decide) rfl
      · intro K hK
        simp (disch := first | omega | decide) only [go_sem, f0, f1, f2, act_call, List.map, cellsOf_page, ne_eq, not_true_eq_false]
        apply mwp_call_s rfl rfl rfl
        · intro Q hQ
          (simp (disch := first | omega | decide) only [go_sem, f0, f1, f2, peekL, reifyL_nil, reifyL_cons, reify_v, cellsOf_page, ne_eq, not_true_eq_false]; (exact hQ))
        · exact good_awake
        · simp [-List.map_take, -List.map_drop, -List.map_append, -List.map_replicate, -List.reduceReplicate, noPtrL, noPtr, noPtrL_bsl, noPtrL_map, sub]
        · rfl
        · exact hK _
      iterate 1 (apply aops_step (by decide) rfl; · (intro K hK; simp (disch := first | omega | decide) only [go_sem, f0, f1, f2, cellsOf_page, ne_eq, not_true_eq_false]; exact hK _))
      refine aops_nil ?_
      refine AW.ret ?_
      refine ⟨.inr rfl, ?_⟩
      apply Exists.intro
      refine leaves_tmp1 6 rfl ?_ (by rfl)
      simp (disch := first | omega | decide) only [go_sem, f0, f1, f2, cellsOf_page, ne_eq, not_true_eq_false]
      all_goals first | done | rfl | trace_state
    case hf =>
      intro hb
      try simp only [Bool.or_eq_true, Bool.and_eq_true, Bool.or_eq_false_iff, Bool.and_eq_false_iff, decide_eq_true_eq, decide_eq_false_iff_not] at hb
      have hbt83 := hb
      refine AW.skip ?_
      refine AW.seq ?_
      obtain ⟨⟨⟨hE1, hE2⟩, hG2⟩, hL2⟩ := hbt83
      obtain ⟨xu1, xu2, xu3⟩ := splitE_0 (nil := n1) hE1
      obtain ⟨xv1, xv2, xv3⟩ := splitE_0 (nil := n2) hE2
      obtain ⟨xu4, xu5, xu6⟩ := sp_pos xu1
      obtain ⟨xv4, xv5, xv6⟩ := sp_pos xv1
      have xul := splitP_len p n1 a (parts (a.length : Int)).toNat
      have xvl := splitP_len q n2 c (parts (c.length : Int)).toNat
      have xu7 : 2 ≤ (parts (a.length : Int)).toNat := (by rw [xu3, xul] at hL2; omega)
      obtain ⟨k0, hk0⟩ : ∃ k0 : Nat, 1 + y % ((((parts (a.length : Int)).toNat : Nat) : Int) - 1) = (k0 : Int) := ⟨(1 + y % ((((parts (a.length : Int)).toNat : Nat) : Int) - 1)).toNat, by have := Int.emod_nonneg y (show ((((parts (a.length : Int)).toNat : Nat) : Int) - 1) ≠ 0 by omega); omega⟩
      have hk1 : 1 ≤ k0 ∧ k0 < (parts (a.length : Int)).toNat := by (have h8 := Int.emod_nonneg y (show ((((parts (a.length : Int)).toNat : Nat) : Int) - 1) ≠ 0 by omega); have h9 := Int.emod_lt_of_pos y (show 0 < ((((parts (a.length : Int)).toNat : Nat) : Int) - 1) by omega); omega)
      have hmx := mix_no (p := p) (q := q) (n1 := n1) (n2 := n2) (a := a) (b := c) (N := (parts (a.length : Int)).toNat) (M := (parts (c.length : Int)).toNat) (k := k0) rfl xu7 hk1 (fun e => by rcases hG2 with h | h; exact h e.1; exact h e.2)
      refine AW.region (cfg := cfg) ?_
      iterate 8 (apply aops_step (by decide) rfl; · (intro K hK; simp (disch := first | omega | decide) only [go_sem, f0, f1, f2, xu3, xv3, xul, xvl, hk0, act_convI u5 u3, List.map, List.length_map, aops_len u48, cellsOf_page, ne_eq, not_true_eq_false]; exact hK _))
      refine aops_nil ?_
      refine AW.seq ?_
      refine AW.region (cfg := cfg) ?_
      apply aops_step (by decide) rfl
      · intro K hK
        rw [act_bs el48 ti47]
        (simp [-List.map_take, -List.map_drop, -BitVec.toNat_ofInt, -BitVec.ofInt_natCast, -BitVec.toNat_setWidth, -BitVec.toNat_ushiftRight, -BitVec.toNat_umod, -BitVec.toNat_udiv, go_sem, elems_v, cellishAV, Value.oneCell', isAggAV, partsOf, TI.z, TI.mk1, f0, f1, f2, xu3, xv3, xul, xvl, hk0]; exact hK _)
      iterate 3 (apply aops_step (by decide) rfl; · (intro K hK; simp (disch := first | omega | decide) only [go_sem, f0, f1, f2, xu3, xv3, xul, xvl, hk0, act_slice_s u48 ti47, cellsOf_page, ne_eq, not_true_eq_false]; exact hK _))
      apply aops_step (by decide) rfl
      · intro K hK
        simp (disch := first | omega | decide) only [go_sem, f0, f1, f2, xu3, xv3, xul, xvl, hk0, List.map, cellsOf_page, ne_eq, not_true_eq_false]
        apply mwp_append2 el48 ti47 u48
        case hpk => intro Q hQ; exact hQ
        case hs' => rfl
        case ho => simp (disch := first | omega | decide) only [go_sem, f0, f1, f2, xu3, xv3, xul, xvl, hk0, cellsOf_page, ne_eq, not_true_eq_false]; rfl
        case hsz => rfl
        case hhi => (simp; done)
        case hb => (simp [sub, roomB]; omega)
        case hy => (intro y hy; exact cells_map (k := 7) (fun _ => rfl) y hy)
        case k => (try simp only [List.nil_append, ← List.map_append, Bool.false_and]); exact hK _
      apply aops_step (by decide) rfl
      · intro K hK
        simp (disch := first | omega | decide) only [go_sem, f0, f1, f2, xu3, xv3, xul, xvl, hk0, cellsOf_page, ne_eq, not_true_eq_false]
        rw [asg_tmp (by simp (disch := first | omega | decide) only [go_sem, f0, f1, f2, xu3, xv3, xul, xvl, hk0, cellsOf_page, ne_eq, not_true_eq_false]; rfl)]
        exact hK _
      refine aops_nil ?_
      refine AW.seq ?_
      refine AW.seq ?_
      refine AW.region (cfg := cfg) ?_
      iterate 2 (apply aops_step (by decide) rfl; · (intro K hK; simp (disch := first | omega | decide) only [go_sem, f0, f1, f2, xu3, xv3, xul, xvl, hk0, cellsOf_page, ne_eq, not_true_eq_false]; exact hK _))
      refine aops_nil ?_
      refine AW.block ?_
      refine AW.forN (fun k σ => ∃ s m, σ = ⟨132, s, m⟩ ∧ s 12 = .v (.sl 7 (!splitOK q c) ((splitP q n2 c (parts (c.length : Int)).toNat).map pageA)) ∧ s 10 = .v (.sl 7 (!splitOK p a) ((splitP p n1 a (parts (a.length : Int)).toNat).map pageA)) ∧ s 15 = .own (.var 15) (m.objs (.var 15)).1 0 ((((splitP p n1 a (parts (a.length : Int)).toNat).take k0) ++ ((splitP q n2 c (parts (c.length : Int)).toNat).take (k0 + k)).drop k0).length) ∧ (m.objs (.var 15)).2 = .arr false 7 ((((splitP p n1 a (parts (a.length : Int)).toNat).take k0) ++ ((splitP q n2 c (parts (c.length : Int)).toNat).take (k0 + k)).drop k0).map pageA) ∧ s 16 = .v (i64 ((k0 + k : Nat) : Int)) ∧ (∀ i, (m.objs (.res i)).2 = .dead) ∧ m.G = []) ((max (parts (a.length : Int)).toNat (parts (c.length : Int)).toNat - k0)) ?_ ?_ ?_
      · refine ⟨_, _, rfl, ?_, ?_, ?_, ?_, ?_, (by intro i; simp [Mem.set, hr]), (by exact hG)⟩ <;> try simp (disch := first | omega | decide) only [go_sem, f0, f1, f2, xu3, xv3, xul, xvl, hk0, cellsOf_page, ne_eq, not_true_eq_false]
        all_goals first | rfl | (rw [mix_0]; done) | (rw [mix_0, Nat.zero_add, List.length_map]; done)
      · clear f0 f1 f2 hr hG
        rintro k σ hk ⟨s, m, rfl, f12, f10, f15, o15, f16, hr, hG⟩
        obtain ⟨g15, o15⟩ : ∃ g, m.objs (.var 15) = (g, .arr false 7 ((((splitP p n1 a (parts (a.length : Int)).toNat).take k0) ++ ((splitP q n2 c (parts (c.length : Int)).toNat).take (k0 + k)).drop k0).map pageA)) := ⟨_, Prod.ext rfl o15⟩
        rw [o15] at f15
        refine AW.seq ?_
        refine AW.seq ?_
        refine AW.region (cfg := cfg) ?_
        iterate 5 (apply aops_step (by decide) rfl; · (intro K hK; simp (disch := first | omega | decide) only [go_sem, f12, f10, f15, f16, o15, xu3, xv3, xul, xvl, hk0, List.map, List.length_map, aops_len u48, cellsOf_page, ne_eq, not_true_eq_false]; exact hK _))
        apply aops_merge' (by decide) (by exact want_of (d := 102) rfl (by simp (disch := first | omega | decide) only [go_sem, f12, f10, f15, f16, o15, xu3, xv3, xul, xvl, hk0, opn_cond, cellsOf_page, ne_eq, not_true_eq_false]; rfl))
        · intro hc K hK
          have hc2 := hc
          simp only [beq_iff_eq, decide_eq_true_eq, decide_eq_false_iff_not, Bool.or_eq_true, Bool.and_eq_true, Bool.or_eq_false_iff, Bool.and_eq_false_iff] at hc2
          simp (disch := first | omega | decide) only [go_sem, f12, f10, f15, f16, o15, xu3, xv3, xul, xvl, hk0, opn_cond, hc, if_true, cellsOf_page, ne_eq, not_true_eq_false]
          exact hK _
        apply aops_merge' (by decide) (by exact want_of (d := 102) rfl (by simp (disch := first | omega | decide) only [go_sem, f12, f10, f15, f16, o15, xu3, xv3, xul, xvl, hk0, opn_cond, cellsOf_page, ne_eq, not_true_eq_false]; rfl))
        · intro hc K hK
          have hc2 := hc
          simp only [beq_iff_eq, decide_eq_true_eq, decide_eq_false_iff_not, Bool.or_eq_true, Bool.and_eq_true, Bool.or_eq_false_iff, Bool.and_eq_false_iff] at hc2
          simp (disch := first | omega | decide) only [go_sem, f12, f10, f15, f16, o15, xu3, xv3, xul, xvl, hk0, opn_cond, hc, if_true, cellsOf_page, ne_eq, not_true_eq_false]
          exact hK _
        apply aops_merge' (by decide) (by exact want_of (d := 102) rfl (by simp (disch := first | omega | decide) only [go_sem, f12, f10, f15, f16, o15, xu3, xv3, xul, xvl, hk0, opn_cond, cellsOf_page, ne_eq, not_true_eq_false]; rfl))
        · intro hc K hK
          have hc2 := hc
          simp only [beq_iff_eq, decide_eq_true_eq, decide_eq_false_iff_not, Bool.or_eq_true, Bool.and_eq_true, Bool.or_eq_false_iff, Bool.and_eq_false_iff] at hc2
          simp (disch := first | omega | decide) only [go_sem, f12, f10, f15, f16, o15, xu3, xv3, xul, xvl, hk0, opn_cond, hc, if_true, List.map, List.length_map, aops_len u48, cellsOf_page, ne_eq, not_true_eq_false]
          exact hK _
        apply aops_merge' (by decide) (by exact want_of (d := 102) rfl (by simp (disch := first | omega | decide) only [go_sem, f12, f10, f15, f16, o15, xu3, xv3, xul, xvl, hk0, opn_cond, cellsOf_page, ne_eq, not_true_eq_false]; rfl))
        · intro hc K hK
          have hc2 := hc
          simp only [beq_iff_eq, decide_eq_true_eq, decide_eq_false_iff_not, Bool.or_eq_true, Bool.and_eq_true, Bool.or_eq_false_iff, Bool.and_eq_false_iff] at hc2
          simp (disch := first | omega | decide) only [go_sem, f12, f10, f15, f16, o15, xu3, xv3, xul, xvl, hk0, opn_cond, hc, if_true, cellsOf_page, ne_eq, not_true_eq_false]
          exact hK _
        iterate 1 (apply aops_step (by decide) rfl; · (intro K hK; simp (disch := first | omega | decide) only [go_sem, f12, f10, f15, f16, o15, xu3, xv3, xul, xvl, hk0, cellsOf_page, ne_eq, not_true_eq_false]; exact hK _))
        refine aops_nil ?_
        apply AW.cond
        · simp (disch := first | omega | decide) only [go_sem, f12, f10, f15, f16, o15, xu3, xv3, xul, xvl, hk0, cellsOf_page, ne_eq, not_true_eq_false]; rfl
        case hf => intro hb; (simp at hb; omega)
        case ht =>
        intro hb
        have hbt107 := hb
        refine AW.skip ?_
        refine AW.seq ?_
        refine AW.block ?_
        refine AW.seq ?_
        refine AW.region (cfg := cfg) ?_
        iterate 4 (apply aops_step (by decide) rfl; · (intro K hK; simp (disch := first | omega | decide) only [go_sem, f12, f10, f15, f16, o15, xu3, xv3, xul, xvl, hk0, List.map, List.length_map, aops_len u48, cellsOf_page, ne_eq, not_true_eq_false]; exact hK _))
        refine aops_nil ?_
        apply AW.cond
        · simp (disch := first | omega | decide) only [go_sem, f12, f10, f15, f16, o15, xu3, xv3, xul, xvl, hk0, cellsOf_page, ne_eq, not_true_eq_false]; rfl
        case ht =>
          intro hb
          try simp only [Bool.or_eq_true, Bool.and_eq_true, Bool.or_eq_false_iff, Bool.and_eq_false_iff, decide_eq_true_eq, decide_eq_false_iff_not] at hb
          have hbt113 := hb
          refine AW.region (cfg := cfg) ?_
          iterate 3 (apply aops_step (by decide) rfl; · (intro K hK; simp (disch := first | omega | decide) only [go_sem, f12, f10, f15, f16, o15, xu3, xv3, xul, xvl, hk0, cellsOf_page, ne_eq, not_true_eq_false]; exact hK _))
          apply aops_step (by decide) rfl
          · intro K hK
            simp (disch := first | omega | decide) only [go_sem, f12, f10, f15, f16, o15, xu3, xv3, xul, xvl, hk0, act_indexAddr_s u48 ti47, List.map, cellsOf_page, ne_eq, not_true_eq_false]
            skip
            exact hK _
          apply aops_step (by decide) rfl
          · intro K hK
            simp (disch := first | omega | decide) only [go_sem, f12, f10, f15, f16, o15, xu3, xv3, xul, xvl, hk0, act_load_t ti47, List.map, cellsOf_page, ne_eq, not_true_eq_false]
            rw [mwp_load_is (by simp)]
            exact hK _
          apply aops_step (by decide) rfl
          · intro K hK
            rw [act_bs el48 ti47]
            (simp [-List.map_take, -List.map_drop, -BitVec.toNat_ofInt, -BitVec.ofInt_natCast, -BitVec.toNat_setWidth, -BitVec.toNat_ushiftRight, -BitVec.toNat_umod, -BitVec.toNat_udiv, go_sem, elems_v, cellishAV, Value.oneCell', isAggAV, partsOf, TI.z, TI.mk1, f12, f10, f15, f16, o15, xu3, xv3, xul, xvl, hk0]; exact hK _)
          apply aops_step (by decide) rfl
          · intro K hK
            simp (disch := first | omega | decide) only [go_sem, f12, f10, f15, f16, o15, xu3, xv3, xul, xvl, hk0, List.map, cellsOf_page, ne_eq, not_true_eq_false]
            apply mwp_append2 el48 ti47 u48
            case hpk => intro Q hQ; (rw [peek_own (by simp (disch := first | omega | decide) only [go_sem, f12, f10, f15, f16, o15, xu3, xv3, xul, xvl, hk0, cellsOf_page, ne_eq, not_true_eq_false]; rfl)]; (try rw [sub_full (by rfl)]); exact hQ)
            case hs' => rfl
            case ho => simp (disch := first | omega | decide) only [go_sem, f12, f10, f15, f16, o15, xu3, xv3, xul, xvl, hk0, cellsOf_page, ne_eq, not_true_eq_false]; rfl
            case hsz => rfl
            case hhi => (simp; done)
            case hb => (simp [sub, roomB]; omega)
            case hy => exact all_cells rfl
            case k => (try simp only [List.nil_append, ← List.map_append, Bool.false_and]); exact hK _
          apply aops_step (by decide) rfl
          · intro K hK
            simp (disch := first | omega | decide) only [go_sem, f12, f10, f15, f16, o15, xu3, xv3, xul, xvl, hk0, cellsOf_page, ne_eq, not_true_eq_false]
            rw [asg_tmp (by simp (disch := first | omega | decide) only [go_sem, f12, f10, f15, f16, o15, xu3, xv3, xul, xvl, hk0, cellsOf_page, ne_eq, not_true_eq_false]; rfl)]
            exact hK _
          refine aops_nil ?_
          refine AW.region (cfg := cfg) ?_
          iterate 3 (apply aops_step (by decide) rfl; · (intro K hK; simp (disch := first | omega | decide) only [go_sem, f12, f10, f15, f16, o15, xu3, xv3, xul, xvl, hk0, cellsOf_page, ne_eq, not_true_eq_false]; exact hK _))
          refine aops_nil ?_
          refine ⟨_, _, rfl, ?_, ?_, ?_, ?_, ?_, (by intro i; simp [Mem.set, hr]), (by exact hG)⟩ <;> try simp (disch := first | omega | decide) only [go_sem, f12, f10, f15, f16, o15, xu3, xv3, xul, xvl, hk0, cellsOf_page, ne_eq, not_true_eq_false]
          all_goals first | rfl | (rw [← mix_in ((splitP p n1 a (parts (a.length : Int)).toNat).take k0) (splitP q n2 c (parts (c.length : Int)).toNat) k0 k (by rw [splitP_len]; omega)]; simp; omega) | (rw [← mix_in ((splitP p n1 a (parts (a.length : Int)).toNat).take k0) (splitP q n2 c (parts (c.length : Int)).toNat) k0 k (by rw [splitP_len]; omega)]; simp [pageA]; done)
        case hf =>
          intro hb
          try simp only [Bool.or_eq_true, Bool.and_eq_true, Bool.or_eq_false_iff, Bool.and_eq_false_iff, decide_eq_true_eq, decide_eq_false_iff_not] at hb
          have hbt113 := hb
          refine AW.skip ?_
          refine AW.region (cfg := cfg) ?_
          iterate 3 (apply aops_step (by decide) rfl; · (intro K hK; simp (disch := first | omega | decide) only [go_sem, f12, f10, f15, f16, o15, xu3, xv3, xul, xvl, hk0, cellsOf_page, ne_eq, not_true_eq_false]; exact hK _))
          refine aops_nil ?_
          refine ⟨_, _, rfl, ?_, ?_, ?_, ?_, ?_, (by intro i; simp [Mem.set, hr]), (by exact hG)⟩ <;> try simp (disch := first | omega | decide) only [go_sem, f12, f10, f15, f16, o15, xu3, xv3, xul, xvl, hk0, cellsOf_page, ne_eq, not_true_eq_false]
          all_goals first | rfl | (rw [← mix_out ((splitP p n1 a (parts (a.length : Int)).toNat).take k0) (splitP q n2 c (parts (c.length : Int)).toNat) k0 k (by rw [splitP_len]; omega)]; done)
      · clear f0 f1 f2 hr hG
        rintro σ ⟨s, m, rfl, f12, f10, f15, o15, f16, hr, hG⟩
        obtain ⟨g15, o15⟩ : ∃ g, m.objs (.var 15) = (g, .arr false 7 ((((splitP p n1 a (parts (a.length : Int)).toNat).take k0) ++ ((splitP q n2 c (parts (c.length : Int)).toNat).take (k0 + (max (parts (a.length : Int)).toNat (parts (c.length : Int)).toNat - k0))).drop k0).map pageA)) := ⟨_, Prod.ext rfl o15⟩
        rw [o15] at f15
        refine AW.seq ?_
        refine AW.seq ?_
        refine AW.region (cfg := cfg) ?_
        iterate 5 (apply aops_step (by decide) rfl; · (intro K hK; simp (disch := first | omega | decide) only [go_sem, f12, f10, f15, f16, o15, xu3, xv3, xul, xvl, hk0, List.map, List.length_map, aops_len u48, cellsOf_page, ne_eq, not_true_eq_false]; exact hK _))
        apply aops_merge' (by decide) (by exact want_of (d := 102) rfl (by simp (disch := first | omega | decide) only [go_sem, f12, f10, f15, f16, o15, xu3, xv3, xul, xvl, hk0, opn_cond, cellsOf_page, ne_eq, not_true_eq_false]; rfl))
        · intro hc K hK
          have hc2 := hc
          simp only [beq_iff_eq, decide_eq_true_eq, decide_eq_false_iff_not, Bool.or_eq_true, Bool.and_eq_true, Bool.or_eq_false_iff, Bool.and_eq_false_iff] at hc2
          simp (disch := first | omega | decide) only [go_sem, f12, f10, f15, f16, o15, xu3, xv3, xul, xvl, hk0, opn_cond, hc, if_true, cellsOf_page, ne_eq, not_true_eq_false]
          exact hK _
        apply aops_merge' (by decide) (by exact want_of (d := 102) rfl (by simp (disch := first | omega | decide) only [go_sem, f12, f10, f15, f16, o15, xu3, xv3, xul, xvl, hk0, opn_cond, cellsOf_page, ne_eq, not_true_eq_false]; rfl))
        · intro hc K hK
          have hc2 := hc
          simp only [beq_iff_eq, decide_eq_true_eq, decide_eq_false_iff_not, Bool.or_eq_true, Bool.and_eq_true, Bool.or_eq_false_iff, Bool.and_eq_false_iff] at hc2
          simp (disch := first | omega | decide) only [go_sem, f12, f10, f15, f16, o15, xu3, xv3, xul, xvl, hk0, opn_cond, hc, if_true, cellsOf_page, ne_eq, not_true_eq_false]
          exact hK _
        apply aops_merge' (by decide) (by exact want_of (d := 102) rfl (by simp (disch := first | omega | decide) only [go_sem, f12, f10, f15, f16, o15, xu3, xv3, xul, xvl, hk0, opn_cond, cellsOf_page, ne_eq, not_true_eq_false]; rfl))
        · intro hc K hK
          have hc2 := hc
          simp only [beq_iff_eq, decide_eq_true_eq, decide_eq_false_iff_not, Bool.or_eq_true, Bool.and_eq_true, Bool.or_eq_false_iff, Bool.and_eq_false_iff] at hc2
          simp (disch := first | omega | decide) only [go_sem, f12, f10, f15, f16, o15, xu3, xv3, xul, xvl, hk0, opn_cond, hc, if_true, List.map, List.length_map, aops_len u48, cellsOf_page, ne_eq, not_true_eq_false]
          exact hK _
        apply aops_merge' (by decide) (by exact want_of (d := 102) rfl (by simp (disch := first | omega | decide) only [go_sem, f12, f10, f15, f16, o15, xu3, xv3, xul, xvl, hk0, opn_cond, cellsOf_page, ne_eq, not_true_eq_false]; rfl))
        · intro hc K hK
          have hc2 := hc
          simp only [beq_iff_eq, decide_eq_true_eq, decide_eq_false_iff_not, Bool.or_eq_true, Bool.and_eq_true, Bool.or_eq_false_iff, Bool.and_eq_false_iff] at hc2
          simp (disch := first | omega | decide) only [go_sem, f12, f10, f15, f16, o15, xu3, xv3, xul, xvl, hk0, opn_cond, hc, if_true, cellsOf_page, ne_eq, not_true_eq_false]
          exact hK _
        iterate 1 (apply aops_step (by decide) rfl; · (intro K hK; simp (disch := first | omega | decide) only [go_sem, f12, f10, f15, f16, o15, xu3, xv3, xul, xvl, hk0, cellsOf_page, ne_eq, not_true_eq_false]; exact hK _))
        refine aops_nil ?_
        apply AW.cond
        · simp (disch := first | omega | decide) only [go_sem, f12, f10, f15, f16, o15, xu3, xv3, xul, xvl, hk0, cellsOf_page, ne_eq, not_true_eq_false]; rfl
        case ht => intro hb; (simp at hb; omega)
        case hf =>
        intro hb
        have hbt107 := hb
        refine AW.exit ?_
        refine AW.seq ?_
        have hme := mix_end ((splitP p n1 a (parts (a.length : Int)).toNat).take k0) (splitP q n2 c (parts (c.length : Int)).toNat) k0 (max (parts (a.length : Int)).toNat (parts (c.length : Int)).toNat - k0) (by rw [splitP_len]; omega)
        have hmy : joinOK (((splitP p n1 a (parts (a.length : Int)).toNat).take k0) ++ ((splitP q n2 c (parts (c.length : Int)).toNat).take (k0 + (max (parts (a.length : Int)).toNat (parts (c.length : Int)).toNat - k0))).drop k0) = false := (by rw [hme]; exact hmx)
        refine AW.region (cfg := cfg) ?_
        iterate 1 (apply aops_step (by decide) rfl; · (intro K hK; simp (disch := first | omega | decide) only [go_sem, f12, f10, f15, f16, o15, xu3, xv3, xul, xvl, hk0, hmy, cellsOf_page, ne_eq, not_true_eq_false]; exact hK _))
        apply aops_step (by decide) rfl
        · intro K hK
          simp (disch := first | omega | decide) only [go_sem, f12, f10, f15, f16, o15, xu3, xv3, xul, xvl, hk0, hmy, act_call, List.map, cellsOf_page, ne_eq, not_true_eq_false]
          apply mwp_call_r rfl rfl rfl
          · intro Q hQ
            (simp (disch := first | omega | decide) only [go_sem, f12, f10, f15, f16, o15, xu3, xv3, xul, xvl, hk0, hmy, peekL, reifyL_nil, reifyL_cons, reify_v, cellsOf_page, ne_eq, not_true_eq_false]; ((((rw [mwp_reify_own (by simp (disch := first | omega | decide) only [go_sem, f12, f10, f15, f16, o15, xu3, xv3, xul, xvl, hk0, hmy, peekL, reifyL_nil, reifyL_cons, reify_v, cellsOf_page, ne_eq, not_true_eq_false]; rfl)]); (try rw [sub_full (by (simp only [List.length_map, List.length_replicate]; done))])); exact hQ)))
          · exact good_Join false (((splitP p n1 a (parts (a.length : Int)).toNat).take k0) ++ ((splitP q n2 c (parts (c.length : Int)).toNat).take (k0 + (max (parts (a.length : Int)).toNat (parts (c.length : Int)).toNat - k0))).drop k0) (by simp [splitP_len]; omega) (fun x hx => by rcases List.mem_append.1 hx with h | h; have := splitP_small x (List.mem_of_mem_take h); omega; have := splitP_small x (List.mem_of_mem_take (List.mem_of_mem_drop h)); omega)
          · simp [-List.map_take, -List.map_drop, -List.map_append, -List.map_replicate, -List.reduceReplicate, noPtrL, noPtr, noPtrL_bsl, noPtrL_map, sub]
          · simp (disch := first | omega | decide) only [go_sem, f12, f10, f15, f16, o15, xu3, xv3, xul, xvl, hk0, hmy, cellsOf_page, ne_eq, not_true_eq_false]
            exact hK _
        iterate 7 (apply aops_step (by decide) rfl; · (intro K hK; simp (disch := first | omega | decide) only [go_sem, f12, f10, f15, f16, o15, xu3, xv3, xul, xvl, hk0, hmy, cellsOf_page, ne_eq, not_true_eq_false]; exact hK _))
        refine aops_nil ?_
        refine AW.seq ?_
        refine AW.region (cfg := cfg) ?_
        iterate 3 (apply aops_step (by decide) rfl; · (intro K hK; simp (disch := first | omega | decide) only [go_sem, f12, f10, f15, f16, o15, xu3, xv3, xul, xvl, hk0, hmy, cellsOf_page, ne_eq, not_true_eq_false]; exact hK _))
        apply aops_step (by decide) rfl
        · intro K hK
          simp (disch := first | omega | decide) only [go_sem, f12, f10, f15, f16, o15, xu3, xv3, xul, xvl, hk0, hmy, act_call, List.map, cellsOf_page, ne_eq, not_true_eq_false]
          apply mwp_call_s rfl rfl rfl
          · intro Q hQ
            (simp (disch := first | omega | decide) only [go_sem, f12, f10, f15, f16, o15, xu3, xv3, xul, xvl, hk0, hmy, peekL, reifyL_nil, reifyL_cons, reify_v, cellsOf_page, ne_eq, not_true_eq_false]; (exact hQ))
          · exact good_awake
          · simp [-List.map_take, -List.map_drop, -List.map_append, -List.map_replicate, -List.reduceReplicate, noPtrL, noPtr, noPtrL_bsl, noPtrL_map, sub]
          · rfl
          · exact hK _
        iterate 2 (apply aops_step (by decide) rfl; · (intro K hK; simp (disch := first | omega | decide) only [go_sem, f12, f10, f15, f16, o15, xu3, xv3, xul, xvl, hk0, hmy, cellsOf_page, ne_eq, not_true_eq_false]; exact hK _))
        refine aops_nil ?_
        refine AW.ret ?_
        refine ⟨.inr rfl, ?_⟩
        apply Exists.intro
        refine leaves_tmp1 6 rfl ?_ (by rfl)
        simp (disch := first | omega | decide) only [go_sem, f12, f10, f15, f16, o15, xu3, xv3, xul, xvl, hk0, hmy, cellsOf_page, ne_eq, not_true_eq_false]
        all_goals first | done | rfl | trace_state

end Go.Vai.R
