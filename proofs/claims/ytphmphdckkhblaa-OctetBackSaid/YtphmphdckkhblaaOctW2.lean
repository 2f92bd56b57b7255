import Derived.Test.YtphmphdckkhblaaOctW
namespace Go.Vai.O
open Go.Proofs Go.Vai
set_option linter.unusedSimpArgs false
set_option linter.unusedVariables false
theorem ti87 : tiOf Try.prog 87 = some ⟨3, 40, [.sl 0 true [], .base (.int .i64 0), .base (.bool false)], true⟩ := by kernel_rfl
theorem fo87_2 : fieldOf Try.prog 87 2 = some (2, 1) := by kernel_rfl
theorem fo87_0 : fieldOf Try.prog 87 0 = some (0, 1) := by kernel_rfl
theorem fo87_1 : fieldOf Try.prog 87 1 = some (1, 1) := by kernel_rfl
theorem ti3 : tiOf Try.prog 3 = some ⟨1, 8, [.base (.int .i64 0)], false⟩ := by kernel_rfl

theorem r_bad {l : List (BitVec 8)} {at_ : Nat} {w : Bool} {k : Int} (h : rBad l at_ w k = true) : rV l at_ w k = 0 ∧ rA l at_ w k = at_ := by simp [rV, rA, h]
theorem r_ok {l : List (BitVec 8)} {at_ : Nat} {w : Bool} {k : Int} (h : rBad l at_ w k = false) : rV l at_ w k = numV ((l.drop at_).take k.toNat) ∧ rA l at_ w k = at_ + k.toNat := by simp [rV, rA, h]
theorem drop_get {l : List (BitVec 8)} {a j n : Nat} (h : j < ((l.drop a).take n).length) : ((l.drop a).take n)[j] = l[a + j]'(by simp at h; omega) := by simp
set_option maxHeartbeats 4000000 in
set_option maxRecDepth 100000 in
theorem good_refReadNum (nil : Bool) (l : List (BitVec 8)) (at_ : Nat) (w : Bool) (hl : l.length ≤ 140737488355000) (hat : at_ ≤ l.length) (k : Int) : Good Try.prog 49 [(.agg [.sl 1 nil (bsl l), i64 (at_ : Int), .b w], false), (i64 k, false)] [] [(.agg [.sl 1 nil (bsl l), i64 (rA l at_ w k : Int), .b (rBad l at_ w k)], false), (.i .u64 (rV l at_ w k), false)] [] := by
  refine good_of_body2 54 Try.func49 rfl rfl rfl (by simp) ?_
  intro s m ha hr hv hG
  have f0 : s 0 = .v (.agg [.sl 1 nil (bsl l), i64 (at_ : Int), .b w]) := ha 0 _ rfl
  have f1 : s 1 = .v (i64 k) := ha 1 _ rfl
  clear ha
  refine AW.seq ?_
  refine AW.region (cfg := cfg) ?_
  apply aops_step (by decide) rfl
  · intro K hK
    simp (disch := first | omega | decide) only [go_sem, f0, f1, act_box_t ti87, List.map]
    rw [settleL_vish _ _ (by rfl)]
    simp (disch := first | omega | decide) only [go_sem, f0, f1, cellsL, List.map, List.length_cons, List.length_nil, Nat.reduceAdd, if_true]
    exact hK _
  apply aops_step (by decide) rfl
  · intro K hK
    simp (disch := first | omega | decide) only [go_sem, f0, f1, act_alloc_t ti87, List.map]
    exact hK _
  iterate 1 (apply aops_step (by decide) rfl; · (intro K hK; simp (disch := first | omega | decide) only [go_sem, f0, f1]; exact hK _))
  refine aops_nil ?_
  refine AW.seq ?_
  refine AW.seq ?_
  refine AW.region (cfg := cfg) ?_
  apply aops_step (by decide) rfl
  · intro K hK
    simp (disch := first | omega | decide) only [go_sem, f0, f1, act_fieldAddr_t fo87_2, List.map]
    first | rw [mwp_fieldAddr_b (by simp (disch := first | omega | decide) only [go_sem, f0, f1]; rfl)] | skip
    exact hK _
  apply aops_step (by decide) rfl
  · intro K hK
    simp (disch := first | omega | decide) only [go_sem, f0, f1, act_load_t ti4, List.map]
    first | rw [mwp_load_i1 (by rfl)] | rw [mwp_load_g1 (by first | (rw [hG]; rfl) | rfl | (simp only [mset_G, hG]; rfl)) (by rfl)] | rw [mwp_load_gs (by first | (rw [hG]; rfl) | rfl | (simp only [mset_G, hG]; rfl)) (by simp)] | rw [mwp_load_bs (by simp (disch := first | omega | decide) only [go_sem, f0, f1]; rfl) (by simp [setAt])] | rw [mwp_load_b1 (by simp (disch := first | omega | decide) only [go_sem, f0, f1]; rfl) (by rfl)] | rw [mwp_aLoad_map (by simp (disch := first | omega | decide) only [go_sem, f0, f1]; rfl) (by first | omega | decide | (simp; omega)) (fun _ => rfl)] | rw [mwp_aLoad_frz (by simp (disch := first | omega | decide) only [go_sem, f0, f1]; rfl) (by first | omega | decide | (simp; omega)) (fun _ => rfl)] | rw [mwp_aLoad_e1 (by simp (disch := first | omega | decide) only [go_sem, f0, f1]; rfl) (by first | rfl | simp) rfl] | rw [mwp_aLoad_f1 (by simp (disch := first | omega | decide) only [go_sem, f0, f1]; rfl) (by rfl) rfl] | skip
    exact hK _
  iterate 1 (apply aops_step (by decide) rfl; · (intro K hK; simp (disch := first | omega | decide) only [go_sem, f0, f1]; exact hK _))
  apply aops_merge' (by decide) (by first | exact want_of (d := 10) rfl (by simp (disch := first | omega | decide) only [go_sem, f0, f1, opn_cond]; rfl) | exact want_of_cond (d := 10) rfl (by simp (disch := first | omega | decide) only [go_sem, f0, f1, opn_cond]; rfl))
  · intro hc K hK
    have hc2 := hc
    simp only [beq_iff_eq, decide_eq_true_eq, decide_eq_false_iff_not, Bool.or_eq_true, Bool.and_eq_true, Bool.or_eq_false_iff, Bool.and_eq_false_iff] at hc2
    simp (disch := first | omega | decide) only [go_sem, f0, f1, opn_cond, hc, if_true]
    exact hK _
  apply aops_merge' (by decide) (by first | exact want_of (d := 10) rfl (by simp (disch := first | omega | decide) only [go_sem, f0, f1, opn_cond]; rfl) | exact want_of_cond (d := 10) rfl (by simp (disch := first | omega | decide) only [go_sem, f0, f1, opn_cond]; rfl))
  · intro hc K hK
    have hc2 := hc
    simp only [beq_iff_eq, decide_eq_true_eq, decide_eq_false_iff_not, Bool.or_eq_true, Bool.and_eq_true, Bool.or_eq_false_iff, Bool.and_eq_false_iff] at hc2
    simp (disch := first | omega | decide) only [go_sem, f0, f1, opn_cond, hc, if_true]
    exact hK _
  iterate 2 (apply aops_step (by decide) rfl; · (intro K hK; simp (disch := first | omega | decide) only [go_sem, f0, f1]; exact hK _))
  apply aops_merge' (by decide) (by first | exact want_of (d := 14) rfl (by simp (disch := first | omega | decide) only [go_sem, f0, f1, opn_cond]; rfl) | exact want_of_cond (d := 14) rfl (by simp (disch := first | omega | decide) only [go_sem, f0, f1, opn_cond]; rfl))
  · intro hc K hK
    have hc2 := hc
    simp only [beq_iff_eq, decide_eq_true_eq, decide_eq_false_iff_not, Bool.or_eq_true, Bool.and_eq_true, Bool.or_eq_false_iff, Bool.and_eq_false_iff] at hc2
    simp (disch := first | omega | decide) only [go_sem, f0, f1, opn_cond, hc, if_true]
    exact hK _
  apply aops_merge' (by decide) (by first | exact want_of (d := 14) rfl (by simp (disch := first | omega | decide) only [go_sem, f0, f1, opn_cond]; rfl) | exact want_of_cond (d := 14) rfl (by simp (disch := first | omega | decide) only [go_sem, f0, f1, opn_cond]; rfl))
  · intro hc K hK
    have hc2 := hc
    simp only [beq_iff_eq, decide_eq_true_eq, decide_eq_false_iff_not, Bool.or_eq_true, Bool.and_eq_true, Bool.or_eq_false_iff, Bool.and_eq_false_iff] at hc2
    simp (disch := first | omega | decide) only [go_sem, f0, f1, opn_cond, hc, if_true]
    exact hK _
  iterate 2 (apply aops_step (by decide) rfl; · (intro K hK; simp (disch := first | omega | decide) only [go_sem, f0, f1]; exact hK _))
  apply aops_merge' (by decide) (by first | exact want_of (d := 18) rfl (by simp (disch := first | omega | decide) only [go_sem, f0, f1, opn_cond]; rfl) | exact want_of_cond (d := 18) rfl (by simp (disch := first | omega | decide) only [go_sem, f0, f1, opn_cond]; rfl))
  · intro hc K hK
    have hc2 := hc
    simp only [beq_iff_eq, decide_eq_true_eq, decide_eq_false_iff_not, Bool.or_eq_true, Bool.and_eq_true, Bool.or_eq_false_iff, Bool.and_eq_false_iff] at hc2
    simp (disch := first | omega | decide) only [go_sem, f0, f1, opn_cond, hc, if_true]
    exact hK _
  apply aops_merge' (by decide) (by first | exact want_of (d := 18) rfl (by simp (disch := first | omega | decide) only [go_sem, f0, f1, opn_cond]; rfl) | exact want_of_cond (d := 18) rfl (by simp (disch := first | omega | decide) only [go_sem, f0, f1, opn_cond]; rfl))
  · intro hc K hK
    have hc2 := hc
    simp only [beq_iff_eq, decide_eq_true_eq, decide_eq_false_iff_not, Bool.or_eq_true, Bool.and_eq_true, Bool.or_eq_false_iff, Bool.and_eq_false_iff] at hc2
    simp (disch := first | omega | decide) only [go_sem, f0, f1, opn_cond, hc, if_true, act_fieldAddr_t fo87_0]
    first | rw [mwp_fieldAddr_b (by simp (disch := first | omega | decide) only [go_sem, f0, f1, opn_cond, hc, if_true]; rfl)] | skip
    exact hK _
  apply aops_merge' (by decide) (by first | exact want_of (d := 18) rfl (by simp (disch := first | omega | decide) only [go_sem, f0, f1, opn_cond]; rfl) | exact want_of_cond (d := 18) rfl (by simp (disch := first | omega | decide) only [go_sem, f0, f1, opn_cond]; rfl))
  · intro hc K hK
    have hc2 := hc
    simp only [beq_iff_eq, decide_eq_true_eq, decide_eq_false_iff_not, Bool.or_eq_true, Bool.and_eq_true, Bool.or_eq_false_iff, Bool.and_eq_false_iff] at hc2
    simp (disch := first | omega | decide) only [go_sem, f0, f1, opn_cond, hc, if_true, act_load_t ti22]
    first | rw [mwp_load_i1 (by rfl)] | rw [mwp_load_g1 (by first | (rw [hG]; rfl) | rfl | (simp only [mset_G, hG]; rfl)) (by rfl)] | rw [mwp_load_gs (by first | (rw [hG]; rfl) | rfl | (simp only [mset_G, hG]; rfl)) (by simp)] | rw [mwp_load_bs (by simp (disch := first | omega | decide) only [go_sem, f0, f1, opn_cond, hc, if_true]; rfl) (by simp [setAt])] | rw [mwp_load_b1 (by simp (disch := first | omega | decide) only [go_sem, f0, f1, opn_cond, hc, if_true]; rfl) (by rfl)] | rw [mwp_aLoad_map (by simp (disch := first | omega | decide) only [go_sem, f0, f1, opn_cond, hc, if_true]; rfl) (by first | omega | decide | (simp; omega)) (fun _ => rfl)] | rw [mwp_aLoad_frz (by simp (disch := first | omega | decide) only [go_sem, f0, f1, opn_cond, hc, if_true]; rfl) (by first | omega | decide | (simp; omega)) (fun _ => rfl)] | rw [mwp_aLoad_e1 (by simp (disch := first | omega | decide) only [go_sem, f0, f1, opn_cond, hc, if_true]; rfl) (by first | rfl | simp) rfl] | rw [mwp_aLoad_f1 (by simp (disch := first | omega | decide) only [go_sem, f0, f1, opn_cond, hc, if_true]; rfl) (by rfl) rfl] | skip
    exact hK _
  apply aops_merge' (by decide) (by first | exact want_of (d := 18) rfl (by simp (disch := first | omega | decide) only [go_sem, f0, f1, opn_cond]; rfl) | exact want_of_cond (d := 18) rfl (by simp (disch := first | omega | decide) only [go_sem, f0, f1, opn_cond]; rfl))
  · intro hc K hK
    have hc2 := hc
    simp only [beq_iff_eq, decide_eq_true_eq, decide_eq_false_iff_not, Bool.or_eq_true, Bool.and_eq_true, Bool.or_eq_false_iff, Bool.and_eq_false_iff] at hc2
    simp (disch := first | omega | decide) only [go_sem, f0, f1, opn_cond, hc, if_true, List.map, List.length_map, aops_len u22]
    exact hK _
  apply aops_merge' (by decide) (by first | exact want_of (d := 18) rfl (by simp (disch := first | omega | decide) only [go_sem, f0, f1, opn_cond]; rfl) | exact want_of_cond (d := 18) rfl (by simp (disch := first | omega | decide) only [go_sem, f0, f1, opn_cond]; rfl))
  · intro hc K hK
    have hc2 := hc
    simp only [beq_iff_eq, decide_eq_true_eq, decide_eq_false_iff_not, Bool.or_eq_true, Bool.and_eq_true, Bool.or_eq_false_iff, Bool.and_eq_false_iff] at hc2
    simp (disch := first | omega | decide) only [go_sem, f0, f1, opn_cond, hc, if_true, act_fieldAddr_t fo87_1]
    first | rw [mwp_fieldAddr_b (by simp (disch := first | omega | decide) only [go_sem, f0, f1, opn_cond, hc, if_true]; rfl)] | skip
    exact hK _
  apply aops_merge' (by decide) (by first | exact want_of (d := 18) rfl (by simp (disch := first | omega | decide) only [go_sem, f0, f1, opn_cond]; rfl) | exact want_of_cond (d := 18) rfl (by simp (disch := first | omega | decide) only [go_sem, f0, f1, opn_cond]; rfl))
  · intro hc K hK
    have hc2 := hc
    simp only [beq_iff_eq, decide_eq_true_eq, decide_eq_false_iff_not, Bool.or_eq_true, Bool.and_eq_true, Bool.or_eq_false_iff, Bool.and_eq_false_iff] at hc2
    simp (disch := first | omega | decide) only [go_sem, f0, f1, opn_cond, hc, if_true, act_load_t ti3]
    first | rw [mwp_load_i1 (by rfl)] | rw [mwp_load_g1 (by first | (rw [hG]; rfl) | rfl | (simp only [mset_G, hG]; rfl)) (by rfl)] | rw [mwp_load_gs (by first | (rw [hG]; rfl) | rfl | (simp only [mset_G, hG]; rfl)) (by simp)] | rw [mwp_load_bs (by simp (disch := first | omega | decide) only [go_sem, f0, f1, opn_cond, hc, if_true]; rfl) (by simp [setAt])] | rw [mwp_load_b1 (by simp (disch := first | omega | decide) only [go_sem, f0, f1, opn_cond, hc, if_true]; rfl) (by rfl)] | rw [mwp_aLoad_map (by simp (disch := first | omega | decide) only [go_sem, f0, f1, opn_cond, hc, if_true]; rfl) (by first | omega | decide | (simp; omega)) (fun _ => rfl)] | rw [mwp_aLoad_frz (by simp (disch := first | omega | decide) only [go_sem, f0, f1, opn_cond, hc, if_true]; rfl) (by first | omega | decide | (simp; omega)) (fun _ => rfl)] | rw [mwp_aLoad_e1 (by simp (disch := first | omega | decide) only [go_sem, f0, f1, opn_cond, hc, if_true]; rfl) (by first | rfl | simp) rfl] | rw [mwp_aLoad_f1 (by simp (disch := first | omega | decide) only [go_sem, f0, f1, opn_cond, hc, if_true]; rfl) (by rfl) rfl] | skip
    exact hK _
  apply aops_merge' (by decide) (by first | exact want_of (d := 18) rfl (by simp (disch := first | omega | decide) only [go_sem, f0, f1, opn_cond]; rfl) | exact want_of_cond (d := 18) rfl (by simp (disch := first | omega | decide) only [go_sem, f0, f1, opn_cond]; rfl))
  · intro hc K hK
    have hc2 := hc
    simp only [beq_iff_eq, decide_eq_true_eq, decide_eq_false_iff_not, Bool.or_eq_true, Bool.and_eq_true, Bool.or_eq_false_iff, Bool.and_eq_false_iff] at hc2
    simp (disch := first | omega | decide) only [go_sem, f0, f1, opn_cond, hc, if_true]
    exact hK _
  apply aops_merge' (by decide) (by first | exact want_of (d := 18) rfl (by simp (disch := first | omega | decide) only [go_sem, f0, f1, opn_cond]; rfl) | exact want_of_cond (d := 18) rfl (by simp (disch := first | omega | decide) only [go_sem, f0, f1, opn_cond]; rfl))
  · intro hc K hK
    have hc2 := hc
    simp only [beq_iff_eq, decide_eq_true_eq, decide_eq_false_iff_not, Bool.or_eq_true, Bool.and_eq_true, Bool.or_eq_false_iff, Bool.and_eq_false_iff] at hc2
    simp (disch := first | omega | decide) only [go_sem, f0, f1, opn_cond, hc, if_true]
    exact hK _
  iterate 1 (apply aops_step (by decide) rfl; · (intro K hK; simp (disch := first | omega | decide) only [go_sem, f0, f1]; exact hK _))
  refine aops_nil ?_
  apply AW.cond
  · simp (disch := first | omega | decide) only [go_sem, f0, f1]; rfl
  case ht =>
    intro hb
    try simp only [Bool.or_eq_true, Bool.and_eq_true, Bool.or_eq_false_iff, Bool.and_eq_false_iff, decide_eq_true_eq, decide_eq_false_iff_not] at hb
    have hbt27 := hb
    refine AW.seq ?_
    refine AW.region (cfg := cfg) ?_
    apply aops_step (by decide) rfl
    · intro K hK
      simp (disch := first | omega | decide) only [go_sem, f0, f1, act_fieldAddr_t fo87_2, List.map]
      first | rw [mwp_fieldAddr_b (by simp (disch := first | omega | decide) only [go_sem, f0, f1]; rfl)] | skip
      exact hK _
    apply aops_step0 rfl
    · intro K hK
      simp (disch := first | omega | decide) only [go_sem, f0, f1, act_store_t ti4, List.map]
      first | rw [mwp_store_g1 (by first | (rw [hG]; rfl) | rfl | (simp only [mset_G, hG]; rfl)) (by simp) rfl rfl] | rw [mwp_store_c (by simp (disch := first | omega | decide) only [go_sem, f0, f1]; rfl) (by rfl) (by rfl) (by rfl) (by simp)] | rw [mwp_aStore_map (by simp (disch := first | omega | decide) only [go_sem, f0, f1]; rfl) (by first | omega | (simp; omega)) (fun _ => rfl) rfl rfl (fun _ => rfl)] | skip
      try simp only [setAt, cellsL, cellsOf_agg, cellsOf_base, List.map_cons, List.map_nil, List.set_cons_zero, List.set_cons_succ, Nat.reduceAdd, Nat.zero_add, hG]
      exact hK _
    refine aops_nil ?_
    refine AW.seq ?_
    refine AW.region (cfg := cfg) ?_
    apply aops_step (by decide) rfl
    · intro K hK
      simp (disch := first | omega | decide) only [go_sem, f0, f1, act_load_t ti87, List.map]
      first | rw [mwp_load_i1 (by rfl)] | rw [mwp_load_g1 (by first | (rw [hG]; rfl) | rfl | (simp only [mset_G, hG]; rfl)) (by rfl)] | rw [mwp_load_gs (by first | (rw [hG]; rfl) | rfl | (simp only [mset_G, hG]; rfl)) (by simp)] | rw [mwp_load_bs (by simp (disch := first | omega | decide) only [go_sem, f0, f1]; rfl) (by simp [setAt])] | rw [mwp_load_b1 (by simp (disch := first | omega | decide) only [go_sem, f0, f1]; rfl) (by rfl)] | rw [mwp_aLoad_map (by simp (disch := first | omega | decide) only [go_sem, f0, f1]; rfl) (by first | omega | decide | (simp; omega)) (fun _ => rfl)] | rw [mwp_aLoad_frz (by simp (disch := first | omega | decide) only [go_sem, f0, f1]; rfl) (by first | omega | decide | (simp; omega)) (fun _ => rfl)] | rw [mwp_aLoad_e1 (by simp (disch := first | omega | decide) only [go_sem, f0, f1]; rfl) (by first | rfl | simp) rfl] | rw [mwp_aLoad_f1 (by simp (disch := first | omega | decide) only [go_sem, f0, f1]; rfl) (by rfl) rfl] | skip
      exact hK _
    apply aops_step0 rfl
    · intro K hK
      simp (disch := first | omega | decide) only [go_sem, f0, f1, act_store_t ti87, List.map]
      first | rw [mwp_store_g1 (by first | (rw [hG]; rfl) | rfl | (simp only [mset_G, hG]; rfl)) (by simp) rfl rfl] | rw [mwp_store_c (by simp (disch := first | omega | decide) only [go_sem, f0, f1]; rfl) (by rfl) (by rfl) (by rfl) (by simp)] | rw [mwp_aStore_map (by simp (disch := first | omega | decide) only [go_sem, f0, f1]; rfl) (by first | omega | (simp; omega)) (fun _ => rfl) rfl rfl (fun _ => rfl)] | skip
      try simp only [setAt, cellsL, cellsOf_agg, cellsOf_base, List.map_cons, List.map_nil, List.set_cons_zero, List.set_cons_succ, Nat.reduceAdd, Nat.zero_add, hG]
      exact hK _
    iterate 1 (apply aops_step (by decide) rfl; · (intro K hK; simp (disch := first | omega | decide) only [go_sem, f0, f1]; exact hK _))
    refine aops_nil ?_
    refine AW.ret ?_
    refine ⟨.inr rfl, ?_⟩
    refine leaves_mwp2 (rs := [.cell 4 87, .tmp 5]) rfl ?_
    simp (config := {failIfUnchanged := false}) [giveL, srcOne, rehome, freezeN, sub, ti87, upd, opn, aLoad, loadL, giveOne, reify, reifyL, readL, readOne, Mwp, M.bind, Mem.set, setAt, cellsL, hG, f0, f1]
    all_goals first | done | (have hb0 : rBad l at_ w k = true := (by simpa [rBad] using hbt27); obtain ⟨e1, e2⟩ := r_bad hb0; simp [hb0, e1, e2]; done) | (rw [hb0, e1, e2, List.take_of_length_le (List.length_take_le _ _)]; refine ⟨⟨by omega, hb1.1.1.1⟩, rfl⟩) | trace_state
  case hf =>
    intro hb
    try simp only [Bool.or_eq_true, Bool.and_eq_true, Bool.or_eq_false_iff, Bool.and_eq_false_iff, decide_eq_true_eq, decide_eq_false_iff_not] at hb
    have hbt27 := hb
    refine AW.skip ?_
    refine AW.seq ?_
    have hb0 : rBad l at_ w k = false := by simpa [rBad] using hbt27
    have hb1 := hb0
    simp [rBad] at hb1
    obtain ⟨e1, e2⟩ := r_ok hb0
    refine AW.region (cfg := cfg) ?_
    iterate 1 (apply aops_step (by decide) rfl; · (intro K hK; simp (disch := first | omega | decide) only [go_sem, f0, f1]; exact hK _))
    refine aops_nil ?_
    refine AW.seq ?_
    refine AW.seq ?_
    refine AW.region (cfg := cfg) ?_
    iterate 1 (apply aops_step (by decide) rfl; · (intro K hK; simp (disch := first | omega | decide) only [go_sem, f0, f1]; exact hK _))
    refine aops_nil ?_
    refine AW.block ?_
    refine AW.forN (fun j σ => ∃ s m, σ = ⟨54, s, m⟩ ∧ s 1 = .v (i64 k) ∧ s 2 = .lptr (.tmp 2 0) (m.objs (.tmp 2 0)).1 0 ∧ (m.objs (.tmp 2 0)).2 = .box [.v (.sl 1 nil (bsl l)), .v (i64 (at_ : Int)), .v (.b w)] ∧ s 4 = .lptr (.tmp 4 0) (m.objs (.tmp 4 0)).1 0 ∧ (m.objs (.tmp 4 0)).2 = .box [.v (.sl 0 true []), .v (i64 0), .v (.b false)] ∧ s 6 = .v (.i .u64 (numV (((l.drop at_).take k.toNat).take j))) ∧ s 7 = .v (i64 (j : Int)) ∧ m.G = []) (k.toNat) ?_ ?_ ?_
    · refine ⟨_, _, rfl, ?_, ?_, ?_, ?_, ?_, ?_, ?_, (by first | exact hG | rfl | (simp only [mset_G, hG]; done) | (simp only [mset_G, hG]; rfl))⟩ <;> try simp (disch := first | omega | decide) only [go_sem, f0, f1]
      all_goals first | rfl | (simp [numV]; done) | trace_state
    · clear f0 f1 hG
      rintro j σ hj ⟨s, m, rfl, f1, f2, o2, f4, o4, f6, f7, hG⟩
      obtain ⟨g2, o2⟩ : ∃ g, m.objs (.tmp 2 0) = (g, .box [.v (.sl 1 nil (bsl l)), .v (i64 (at_ : Int)), .v (.b w)]) := ⟨_, Prod.ext rfl o2⟩
      rw [o2] at f2
      obtain ⟨g4, o4⟩ : ∃ g, m.objs (.tmp 4 0) = (g, .box [.v (.sl 0 true []), .v (i64 0), .v (.b false)]) := ⟨_, Prod.ext rfl o4⟩
      rw [o4] at f4
      refine AW.seq ?_
      refine AW.seq ?_
      refine AW.region (cfg := cfg) ?_
      iterate 3 (apply aops_step (by decide) rfl; · (intro K hK; simp (disch := first | omega | decide) only [go_sem, f1, f2, f4, f6, f7, o2, o4]; exact hK _))
      refine aops_nil ?_
      apply AW.cond
      · simp (disch := first | omega | decide) only [go_sem, f1, f2, f4, f6, f7, o2, o4]; rfl
      case hf => intro hb; first | (simp at hb; done) | (simp at hb; omega)
      case ht =>
      intro hb
      have hbt32 := hb
      refine AW.skip ?_
      refine AW.seq ?_
      refine AW.block ?_
      have hlen : ((l.drop at_).take k.toNat).length = k.toNat := by simp; omega
      have hv := numV_lt (b := ((l.drop at_).take k.toNat).take j) (by simp; omega)
      refine AW.region (cfg := cfg) ?_
      iterate 2 (apply aops_step (by decide) rfl; · (intro K hK; simp (disch := first | omega | decide) only [go_sem, f1, f2, f4, f6, f7, o2, o4]; exact hK _))
      apply aops_step (by decide) rfl
      · intro K hK
        simp (disch := first | omega | decide) only [go_sem, f1, f2, f4, f6, f7, o2, o4, act_fieldAddr_t fo87_0, List.map]
        first | rw [mwp_fieldAddr_b (by simp (disch := first | omega | decide) only [go_sem, f1, f2, f4, f6, f7, o2, o4]; rfl)] | skip
        exact hK _
      apply aops_step (by decide) rfl
      · intro K hK
        simp (disch := first | omega | decide) only [go_sem, f1, f2, f4, f6, f7, o2, o4, act_load_t ti22, List.map]
        first | rw [mwp_load_i1 (by rfl)] | rw [mwp_load_g1 (by first | (rw [hG]; rfl) | rfl | (simp only [mset_G, hG]; rfl)) (by rfl)] | rw [mwp_load_gs (by first | (rw [hG]; rfl) | rfl | (simp only [mset_G, hG]; rfl)) (by simp)] | rw [mwp_load_bs (by simp (disch := first | omega | decide) only [go_sem, f1, f2, f4, f6, f7, o2, o4]; rfl) (by simp [setAt])] | rw [mwp_load_b1 (by simp (disch := first | omega | decide) only [go_sem, f1, f2, f4, f6, f7, o2, o4]; rfl) (by rfl)] | rw [mwp_aLoad_map (by simp (disch := first | omega | decide) only [go_sem, f1, f2, f4, f6, f7, o2, o4]; rfl) (by first | omega | decide | (simp; omega)) (fun _ => rfl)] | rw [mwp_aLoad_frz (by simp (disch := first | omega | decide) only [go_sem, f1, f2, f4, f6, f7, o2, o4]; rfl) (by first | omega | decide | (simp; omega)) (fun _ => rfl)] | rw [mwp_aLoad_e1 (by simp (disch := first | omega | decide) only [go_sem, f1, f2, f4, f6, f7, o2, o4]; rfl) (by first | rfl | simp) rfl] | rw [mwp_aLoad_f1 (by simp (disch := first | omega | decide) only [go_sem, f1, f2, f4, f6, f7, o2, o4]; rfl) (by rfl) rfl] | skip
        exact hK _
      apply aops_step (by decide) rfl
      · intro K hK
        simp (disch := first | omega | decide) only [go_sem, f1, f2, f4, f6, f7, o2, o4, act_fieldAddr_t fo87_1, List.map]
        first | rw [mwp_fieldAddr_b (by simp (disch := first | omega | decide) only [go_sem, f1, f2, f4, f6, f7, o2, o4]; rfl)] | skip
        exact hK _
      apply aops_step (by decide) rfl
      · intro K hK
        simp (disch := first | omega | decide) only [go_sem, f1, f2, f4, f6, f7, o2, o4, act_load_t ti3, List.map]
        first | rw [mwp_load_i1 (by rfl)] | rw [mwp_load_g1 (by first | (rw [hG]; rfl) | rfl | (simp only [mset_G, hG]; rfl)) (by rfl)] | rw [mwp_load_gs (by first | (rw [hG]; rfl) | rfl | (simp only [mset_G, hG]; rfl)) (by simp)] | rw [mwp_load_bs (by simp (disch := first | omega | decide) only [go_sem, f1, f2, f4, f6, f7, o2, o4]; rfl) (by simp [setAt])] | rw [mwp_load_b1 (by simp (disch := first | omega | decide) only [go_sem, f1, f2, f4, f6, f7, o2, o4]; rfl) (by rfl)] | rw [mwp_aLoad_map (by simp (disch := first | omega | decide) only [go_sem, f1, f2, f4, f6, f7, o2, o4]; rfl) (by first | omega | decide | (simp; omega)) (fun _ => rfl)] | rw [mwp_aLoad_frz (by simp (disch := first | omega | decide) only [go_sem, f1, f2, f4, f6, f7, o2, o4]; rfl) (by first | omega | decide | (simp; omega)) (fun _ => rfl)] | rw [mwp_aLoad_e1 (by simp (disch := first | omega | decide) only [go_sem, f1, f2, f4, f6, f7, o2, o4]; rfl) (by first | rfl | simp) rfl] | rw [mwp_aLoad_f1 (by simp (disch := first | omega | decide) only [go_sem, f1, f2, f4, f6, f7, o2, o4]; rfl) (by rfl) rfl] | skip
        exact hK _
      iterate 2 (apply aops_step (by decide) rfl; · (intro K hK; simp (disch := first | omega | decide) only [go_sem, f1, f2, f4, f6, f7, o2, o4]; exact hK _))
      apply aops_step (by decide) rfl
      · intro K hK
        simp (disch := first | omega | decide) only [go_sem, f1, f2, f4, f6, f7, o2, o4, act_indexAddr_s u22 ti5, List.map]
        first | rw [mwp_aIndex_own (by simp (disch := first | omega | decide) only [go_sem, f1, f2, f4, f6, f7, o2, o4]; rfl) (by first | omega | (simp; omega)) (by first | omega | decide | (simp; omega))] | rw [mwp_aIndex_frz (by simp (disch := first | omega | decide) only [go_sem, f1, f2, f4, f6, f7, o2, o4]; rfl) (by first | omega | (simp; omega)) (by first | omega | decide | (simp; omega))] | skip
        exact hK _
      apply aops_step (by decide) rfl
      · intro K hK
        simp (disch := first | omega | decide) only [go_sem, f1, f2, f4, f6, f7, o2, o4, act_load_t ti5, List.map]
        first | rw [mwp_load_i1 (by rfl)] | rw [mwp_load_g1 (by first | (rw [hG]; rfl) | rfl | (simp only [mset_G, hG]; rfl)) (by rfl)] | rw [mwp_load_gs (by first | (rw [hG]; rfl) | rfl | (simp only [mset_G, hG]; rfl)) (by simp)] | rw [mwp_load_bs (by simp (disch := first | omega | decide) only [go_sem, f1, f2, f4, f6, f7, o2, o4]; rfl) (by simp [setAt])] | rw [mwp_load_b1 (by simp (disch := first | omega | decide) only [go_sem, f1, f2, f4, f6, f7, o2, o4]; rfl) (by rfl)] | rw [mwp_aLoad_map (by simp (disch := first | omega | decide) only [go_sem, f1, f2, f4, f6, f7, o2, o4]; rfl) (by first | omega | decide | (simp; omega)) (fun _ => rfl)] | rw [mwp_aLoad_frz (by simp (disch := first | omega | decide) only [go_sem, f1, f2, f4, f6, f7, o2, o4]; rfl) (by first | omega | decide | (simp; omega)) (fun _ => rfl)] | rw [mwp_aLoad_e1 (by simp (disch := first | omega | decide) only [go_sem, f1, f2, f4, f6, f7, o2, o4]; rfl) (by first | rfl | simp) rfl] | rw [mwp_aLoad_f1 (by simp (disch := first | omega | decide) only [go_sem, f1, f2, f4, f6, f7, o2, o4]; rfl) (by rfl) rfl] | skip
        exact hK _
      iterate 3 (apply aops_step (by decide) rfl; · (intro K hK; simp (disch := first | omega | decide) only [go_sem, f1, f2, f4, f6, f7, o2, o4, act_convI u5 u68]; exact hK _))
      refine aops_nil ?_
      refine AW.region (cfg := cfg) ?_
      iterate 3 (apply aops_step (by decide) rfl; · (intro K hK; simp (disch := first | omega | decide) only [go_sem, f1, f2, f4, f6, f7, o2, o4]; exact hK _))
      refine aops_nil ?_
      refine ⟨_, _, rfl, ?_, ?_, ?_, ?_, ?_, ?_, ?_, (by first | exact hG | rfl | (simp only [mset_G, hG]; done) | (simp only [mset_G, hG]; rfl))⟩ <;> try simp (disch := first | omega | decide) only [go_sem, f1, f2, f4, f6, f7, o2, o4]
      all_goals first | rfl | (rw [numV_take (by rw [hlen]; exact hj), drop_get]; rfl) | trace_state
    · clear f0 f1 hG
      rintro σ ⟨s, m, rfl, f1, f2, o2, f4, o4, f6, f7, hG⟩
      obtain ⟨g2, o2⟩ : ∃ g, m.objs (.tmp 2 0) = (g, .box [.v (.sl 1 nil (bsl l)), .v (i64 (at_ : Int)), .v (.b w)]) := ⟨_, Prod.ext rfl o2⟩
      rw [o2] at f2
      obtain ⟨g4, o4⟩ : ∃ g, m.objs (.tmp 4 0) = (g, .box [.v (.sl 0 true []), .v (i64 0), .v (.b false)]) := ⟨_, Prod.ext rfl o4⟩
      rw [o4] at f4
      refine AW.seq ?_
      refine AW.seq ?_
      refine AW.region (cfg := cfg) ?_
      iterate 3 (apply aops_step (by decide) rfl; · (intro K hK; simp (disch := first | omega | decide) only [go_sem, f1, f2, f4, f6, f7, o2, o4]; exact hK _))
      refine aops_nil ?_
      apply AW.cond
      · simp (disch := first | omega | decide) only [go_sem, f1, f2, f4, f6, f7, o2, o4]; rfl
      case ht => intro hb; first | (simp at hb; done) | (simp at hb; omega)
      case hf =>
      intro hb
      have hbt32 := hb
      refine AW.exit ?_
      refine AW.seq ?_
      refine AW.region (cfg := cfg) ?_
      apply aops_step (by decide) rfl
      · intro K hK
        simp (disch := first | omega | decide) only [go_sem, f1, f2, f4, f6, f7, o2, o4, act_fieldAddr_t fo87_1, List.map]
        first | rw [mwp_fieldAddr_b (by simp (disch := first | omega | decide) only [go_sem, f1, f2, f4, f6, f7, o2, o4]; rfl)] | skip
        exact hK _
      apply aops_step (by decide) rfl
      · intro K hK
        simp (disch := first | omega | decide) only [go_sem, f1, f2, f4, f6, f7, o2, o4, act_load_t ti3, List.map]
        first | rw [mwp_load_i1 (by rfl)] | rw [mwp_load_g1 (by first | (rw [hG]; rfl) | rfl | (simp only [mset_G, hG]; rfl)) (by rfl)] | rw [mwp_load_gs (by first | (rw [hG]; rfl) | rfl | (simp only [mset_G, hG]; rfl)) (by simp)] | rw [mwp_load_bs (by simp (disch := first | omega | decide) only [go_sem, f1, f2, f4, f6, f7, o2, o4]; rfl) (by simp [setAt])] | rw [mwp_load_b1 (by simp (disch := first | omega | decide) only [go_sem, f1, f2, f4, f6, f7, o2, o4]; rfl) (by rfl)] | rw [mwp_aLoad_map (by simp (disch := first | omega | decide) only [go_sem, f1, f2, f4, f6, f7, o2, o4]; rfl) (by first | omega | decide | (simp; omega)) (fun _ => rfl)] | rw [mwp_aLoad_frz (by simp (disch := first | omega | decide) only [go_sem, f1, f2, f4, f6, f7, o2, o4]; rfl) (by first | omega | decide | (simp; omega)) (fun _ => rfl)] | rw [mwp_aLoad_e1 (by simp (disch := first | omega | decide) only [go_sem, f1, f2, f4, f6, f7, o2, o4]; rfl) (by first | rfl | simp) rfl] | rw [mwp_aLoad_f1 (by simp (disch := first | omega | decide) only [go_sem, f1, f2, f4, f6, f7, o2, o4]; rfl) (by rfl) rfl] | skip
        exact hK _
      iterate 2 (apply aops_step (by decide) rfl; · (intro K hK; simp (disch := first | omega | decide) only [go_sem, f1, f2, f4, f6, f7, o2, o4]; exact hK _))
      apply aops_step (by decide) rfl
      · intro K hK
        simp (disch := first | omega | decide) only [go_sem, f1, f2, f4, f6, f7, o2, o4, act_fieldAddr_t fo87_1, List.map]
        first | rw [mwp_fieldAddr_b (by simp (disch := first | omega | decide) only [go_sem, f1, f2, f4, f6, f7, o2, o4]; rfl)] | skip
        exact hK _
      apply aops_step0 rfl
      · intro K hK
        simp (disch := first | omega | decide) only [go_sem, f1, f2, f4, f6, f7, o2, o4, act_store_t ti3, List.map]
        first | rw [mwp_store_g1 (by first | (rw [hG]; rfl) | rfl | (simp only [mset_G, hG]; rfl)) (by simp) rfl rfl] | rw [mwp_store_c (by simp (disch := first | omega | decide) only [go_sem, f1, f2, f4, f6, f7, o2, o4]; rfl) (by rfl) (by rfl) (by rfl) (by simp)] | rw [mwp_aStore_map (by simp (disch := first | omega | decide) only [go_sem, f1, f2, f4, f6, f7, o2, o4]; rfl) (by first | omega | (simp; omega)) (fun _ => rfl) rfl rfl (fun _ => rfl)] | skip
        try simp only [setAt, cellsL, cellsOf_agg, cellsOf_base, List.map_cons, List.map_nil, List.set_cons_zero, List.set_cons_succ, Nat.reduceAdd, Nat.zero_add, hG]
        exact hK _
      refine aops_nil ?_
      refine AW.seq ?_
      refine AW.region (cfg := cfg) ?_
      apply aops_step (by decide) rfl
      · intro K hK
        simp (disch := first | omega | decide) only [go_sem, f1, f2, f4, f6, f7, o2, o4, act_load_t ti87, List.map]
        first | rw [mwp_load_i1 (by rfl)] | rw [mwp_load_g1 (by first | (rw [hG]; rfl) | rfl | (simp only [mset_G, hG]; rfl)) (by rfl)] | rw [mwp_load_gs (by first | (rw [hG]; rfl) | rfl | (simp only [mset_G, hG]; rfl)) (by simp)] | rw [mwp_load_bs (by simp (disch := first | omega | decide) only [go_sem, f1, f2, f4, f6, f7, o2, o4]; rfl) (by simp [setAt])] | rw [mwp_load_b1 (by simp (disch := first | omega | decide) only [go_sem, f1, f2, f4, f6, f7, o2, o4]; rfl) (by rfl)] | rw [mwp_aLoad_map (by simp (disch := first | omega | decide) only [go_sem, f1, f2, f4, f6, f7, o2, o4]; rfl) (by first | omega | decide | (simp; omega)) (fun _ => rfl)] | rw [mwp_aLoad_frz (by simp (disch := first | omega | decide) only [go_sem, f1, f2, f4, f6, f7, o2, o4]; rfl) (by first | omega | decide | (simp; omega)) (fun _ => rfl)] | rw [mwp_aLoad_e1 (by simp (disch := first | omega | decide) only [go_sem, f1, f2, f4, f6, f7, o2, o4]; rfl) (by first | rfl | simp) rfl] | rw [mwp_aLoad_f1 (by simp (disch := first | omega | decide) only [go_sem, f1, f2, f4, f6, f7, o2, o4]; rfl) (by rfl) rfl] | skip
        exact hK _
      iterate 1 (apply aops_step (by decide) rfl; · (intro K hK; simp (disch := first | omega | decide) only [go_sem, f1, f2, f4, f6, f7, o2, o4]; exact hK _))
      apply aops_step0 rfl
      · intro K hK
        simp (disch := first | omega | decide) only [go_sem, f1, f2, f4, f6, f7, o2, o4, act_store_t ti87, List.map]
        first | rw [mwp_store_g1 (by first | (rw [hG]; rfl) | rfl | (simp only [mset_G, hG]; rfl)) (by simp) rfl rfl] | rw [mwp_store_c (by simp (disch := first | omega | decide) only [go_sem, f1, f2, f4, f6, f7, o2, o4]; rfl) (by rfl) (by rfl) (by rfl) (by simp)] | rw [mwp_aStore_map (by simp (disch := first | omega | decide) only [go_sem, f1, f2, f4, f6, f7, o2, o4]; rfl) (by first | omega | (simp; omega)) (fun _ => rfl) rfl rfl (fun _ => rfl)] | skip
        try simp only [setAt, cellsL, cellsOf_agg, cellsOf_base, List.map_cons, List.map_nil, List.set_cons_zero, List.set_cons_succ, Nat.reduceAdd, Nat.zero_add, hG]
        exact hK _
      iterate 1 (apply aops_step (by decide) rfl; · (intro K hK; simp (disch := first | omega | decide) only [go_sem, f1, f2, f4, f6, f7, o2, o4]; exact hK _))
      refine aops_nil ?_
      refine AW.ret ?_
      refine ⟨.inr rfl, ?_⟩
      refine leaves_mwp2 (rs := [.cell 4 87, .tmp 5]) rfl ?_
      simp (config := {failIfUnchanged := false}) [giveL, srcOne, rehome, freezeN, sub, ti87, upd, opn, aLoad, loadL, giveOne, reify, reifyL, readL, readOne, Mwp, M.bind, Mem.set, setAt, cellsL, hG, f1, f2, f4, f6, f7, o2, o4]
      all_goals first | done | (have hb0 : rBad l at_ w k = true := (by simpa [rBad] using hbt27); obtain ⟨e1, e2⟩ := r_bad hb0; simp [hb0, e1, e2]; done) | (rw [hb0, e1, e2, List.take_of_length_le (List.length_take_le _ _)]; refine ⟨⟨by omega, hb1.1.1.1⟩, rfl⟩) | trace_state

theorem s_bad {l : List (BitVec 8)} {at_ : Nat} {w : Bool} (h : sBad l at_ w = true) : sV l at_ w = [] ∧ sA l at_ w = at_ := by simp [sV, sA, h]
theorem s_ok {l : List (BitVec 8)} {at_ : Nat} {w : Bool} (h : sBad l at_ w = false) : sV l at_ w = (l.drop (rA l at_ w 2)).take (rV l at_ w 2).toNat ∧ sA l at_ w = rA l at_ w 2 + (rV l at_ w 2).toNat := by simp [sV, sA, h]
theorem s_w {l : List (BitVec 8)} {at_ : Nat} {w : Bool} (h : sBad l at_ w = false) : w = false ∧ rBad l at_ w 2 = false ∧ rV l at_ w 2 ≤ (l.length : Int) - (rA l at_ w 2 : Int) := by
  simp [sBad] at h
  refine ⟨?_, h.1, h.2⟩
  have := h.1
  simp [rBad] at this
  exact this.1
theorem numS_R {w : Int} (n : Int) (h : mayW w = true) : numS w n = numR n w.toNat := by rw [numS_is h]; exact numB_numR n _
theorem txO_ok {t : List (BitVec 8)} (h : t.length ≤ 65535) : txO t = true := by simp [txO]; omega
theorem txR_ok {l t : List (BitVec 8)} (h : t.length ≤ 65535) : txR l t = l ++ (numR (t.length : Int) 2 ++ t) := by rw [txR, txO_ok h, if_pos rfl, numS2, List.append_assoc]
def nilS (l : List (BitVec 8)) (at_ : Nat) (w : Bool) : Bool := sBad l at_ w
set_option maxHeartbeats 4000000 in
set_option maxRecDepth 100000 in
theorem good_refReadText (nil : Bool) (l : List (BitVec 8)) (at_ : Nat) (w : Bool) (hl : l.length ≤ 140737488355000) (hat : at_ ≤ l.length) : Good Try.prog 46 [(.agg [.sl 1 nil (bsl l), i64 (at_ : Int), .b w], false)] [] [(.agg [.sl 1 nil (bsl l), i64 (sA l at_ w : Int), .b (sBad l at_ w)], false), (.sl 1 (nilS l at_ w) (bsl (sV l at_ w)), false)] [] := by
  refine good_of_body3 47 Try.func46 rfl rfl rfl (by simp) ?_
  intro s m ha hr hv hG
  have f0 : s 0 = .v (.agg [.sl 1 nil (bsl l), i64 (at_ : Int), .b w]) := ha 0 _ rfl
  clear ha
  refine AW.seq ?_
  refine AW.region (cfg := cfg) ?_
  apply aops_step (by decide) rfl
  · intro K hK
    simp (disch := first | omega | decide) only [go_sem, f0, act_box_t ti87, List.map]
    rw [settleL_vish _ _ (by rfl)]
    simp (disch := first | omega | decide) only [go_sem, f0, cellsL, List.map, List.length_cons, List.length_nil, Nat.reduceAdd, if_true]
    exact hK _
  apply aops_step (by decide) rfl
  · intro K hK
    simp (disch := first | omega | decide) only [go_sem, f0, act_alloc_t ti87, List.map]
    exact hK _
  iterate 1 (apply aops_step (by decide) rfl; · (intro K hK; simp (disch := first | omega | decide) only [go_sem, f0]; exact hK _))
  refine aops_nil ?_
  refine AW.seq ?_
  have v2 := rV_range2 l at_ w
  have a2 := rA_le hat w 2
  refine AW.region (cfg := cfg) ?_
  apply aops_step (by decide) rfl
  · intro K hK
    simp (disch := first | omega | decide) only [go_sem, f0, act_load_t ti87, List.map]
    first | rw [mwp_load_i1 (by rfl)] | rw [mwp_load_g1 (by first | (rw [hG]; rfl) | rfl | (simp only [mset_G, hG]; rfl)) (by rfl)] | rw [mwp_load_gs (by first | (rw [hG]; rfl) | rfl | (simp only [mset_G, hG]; rfl)) (by simp)] | rw [mwp_load_bs (by simp (disch := first | omega | decide) only [go_sem, f0]; rfl) (by simp [setAt])] | rw [mwp_load_b1 (by simp (disch := first | omega | decide) only [go_sem, f0]; rfl) (by rfl)] | rw [mwp_aLoad_map (by simp (disch := first | omega | decide) only [go_sem, f0]; rfl) (by first | omega | decide | (simp; omega)) (fun _ => rfl)] | rw [mwp_aLoad_frz (by simp (disch := first | omega | decide) only [go_sem, f0]; rfl) (by first | omega | decide | (simp; omega)) (fun _ => rfl)] | rw [mwp_aLoad_e1 (by simp (disch := first | omega | decide) only [go_sem, f0]; rfl) (by first | rfl | simp) rfl] | rw [mwp_aLoad_f1 (by simp (disch := first | omega | decide) only [go_sem, f0]; rfl) (by rfl) rfl] | skip
    exact hK _
  apply aops_step (by decide) rfl
  · intro K hK
    simp (disch := first | omega | decide) only [go_sem, f0, act_call, List.map]
    apply mwp_call_r rfl rfl rfl
    · intro Q hQ
      simp (disch := first | omega | decide) only [go_sem, f0, peekL, reifyL_nil, reifyL_cons, reify_v]
      first | exact hQ | (((first | rw [peek_own (by simp (disch := first | omega | decide) only [go_sem, f0, peekL, reifyL_nil, reifyL_cons, reify_v]; rfl)] | rw [mwp_reify_own (by simp (disch := first | omega | decide) only [go_sem, f0, peekL, reifyL_nil, reifyL_cons, reify_v]; rfl)] | rw [peek_frz (by simp (disch := first | omega | decide) only [go_sem, f0, peekL, reifyL_nil, reifyL_cons, reify_v]; rfl)] | rw [reify_frz (by simp (disch := first | omega | decide) only [go_sem, f0, peekL, reifyL_nil, reifyL_cons, reify_v]; rfl)]); (try rw [sub_full (by first | (simp only [List.length_map, List.length_replicate]; done) | simp)])); exact hQ) | (((first | rw [peek_own (by simp (disch := first | omega | decide) only [go_sem, f0, peekL, reifyL_nil, reifyL_cons, reify_v]; rfl)] | rw [mwp_reify_own (by simp (disch := first | omega | decide) only [go_sem, f0, peekL, reifyL_nil, reifyL_cons, reify_v]; rfl)] | rw [peek_frz (by simp (disch := first | omega | decide) only [go_sem, f0, peekL, reifyL_nil, reifyL_cons, reify_v]; rfl)] | rw [reify_frz (by simp (disch := first | omega | decide) only [go_sem, f0, peekL, reifyL_nil, reifyL_cons, reify_v]; rfl)]); (try rw [sub_full (by first | (simp only [List.length_map, List.length_replicate]; done) | simp)])); (try simp (disch := first | omega | decide) only [go_sem, f0, peekL, reifyL_nil, reifyL_cons, reify_v]); ((first | rw [peek_own (by simp (disch := first | omega | decide) only [go_sem, f0, peekL, reifyL_nil, reifyL_cons, reify_v]; rfl)] | rw [mwp_reify_own (by simp (disch := first | omega | decide) only [go_sem, f0, peekL, reifyL_nil, reifyL_cons, reify_v]; rfl)] | rw [peek_frz (by simp (disch := first | omega | decide) only [go_sem, f0, peekL, reifyL_nil, reifyL_cons, reify_v]; rfl)] | rw [reify_frz (by simp (disch := first | omega | decide) only [go_sem, f0, peekL, reifyL_nil, reifyL_cons, reify_v]; rfl)]); (try rw [sub_full (by first | (simp only [List.length_map, List.length_replicate]; done) | simp)])); exact hQ) | (((first | rw [peek_own (by simp (disch := first | omega | decide) only [go_sem, f0, peekL, reifyL_nil, reifyL_cons, reify_v]; rfl)] | rw [mwp_reify_own (by simp (disch := first | omega | decide) only [go_sem, f0, peekL, reifyL_nil, reifyL_cons, reify_v]; rfl)] | rw [peek_frz (by simp (disch := first | omega | decide) only [go_sem, f0, peekL, reifyL_nil, reifyL_cons, reify_v]; rfl)] | rw [reify_frz (by simp (disch := first | omega | decide) only [go_sem, f0, peekL, reifyL_nil, reifyL_cons, reify_v]; rfl)]); (try rw [sub_full (by first | (simp only [List.length_map, List.length_replicate]; done) | simp)])); simp (disch := first | omega | decide) only [go_sem, f0, peekL, reifyL_nil, reifyL_cons, reify_v]; exact hQ)
    · exact good_refReadNum _ _ _ _ (by omega) (by omega) 2
    · simp [-List.map_take, -List.map_drop, -List.map_append, -List.map_replicate, -List.reduceReplicate, noPtrL, noPtr, noPtrL_bsl, noPtrL_map, sub]
    · simp (disch := first | omega | decide) only [go_sem, f0]
      exact hK _
  iterate 3 (apply aops_step (by decide) rfl; · (intro K hK; simp (disch := first | omega | decide) only [go_sem, f0]; exact hK _))
  apply aops_step (by decide) rfl
  · intro K hK
    simp (disch := first | omega | decide) only [go_sem, f0, act_alloc_t ti87, List.map]
    exact hK _
  apply aops_step0 rfl
  · intro K hK
    simp (disch := first | omega | decide) only [go_sem, f0, act_store_t ti87, List.map]
    first | rw [mwp_store_g1 (by first | (rw [hG]; rfl) | rfl | (simp only [mset_G, hG]; rfl)) (by simp) rfl rfl] | rw [mwp_store_c (by simp (disch := first | omega | decide) only [go_sem, f0]; rfl) (by rfl) (by rfl) (by rfl) (by simp)] | rw [mwp_aStore_map (by simp (disch := first | omega | decide) only [go_sem, f0]; rfl) (by first | omega | (simp; omega)) (fun _ => rfl) rfl rfl (fun _ => rfl)] | skip
    try simp only [setAt, cellsL, cellsOf_agg, cellsOf_base, List.map_cons, List.map_nil, List.set_cons_zero, List.set_cons_succ, Nat.reduceAdd, Nat.zero_add, hG]
    exact hK _
  iterate 1 (apply aops_step (by decide) rfl; · (intro K hK; simp (disch := first | omega | decide) only [go_sem, f0]; exact hK _))
  refine aops_nil ?_
  refine AW.seq ?_
  refine AW.seq ?_
  refine AW.region (cfg := cfg) ?_
  apply aops_step (by decide) rfl
  · intro K hK
    simp (disch := first | omega | decide) only [go_sem, f0, act_fieldAddr_t fo87_2, List.map]
    first | rw [mwp_fieldAddr_b (by simp (disch := first | omega | decide) only [go_sem, f0]; rfl)] | skip
    exact hK _
  apply aops_step (by decide) rfl
  · intro K hK
    simp (disch := first | omega | decide) only [go_sem, f0, act_load_t ti4, List.map]
    first | rw [mwp_load_i1 (by rfl)] | rw [mwp_load_g1 (by first | (rw [hG]; rfl) | rfl | (simp only [mset_G, hG]; rfl)) (by rfl)] | rw [mwp_load_gs (by first | (rw [hG]; rfl) | rfl | (simp only [mset_G, hG]; rfl)) (by simp)] | rw [mwp_load_bs (by simp (disch := first | omega | decide) only [go_sem, f0]; rfl) (by simp [setAt])] | rw [mwp_load_b1 (by simp (disch := first | omega | decide) only [go_sem, f0]; rfl) (by rfl)] | rw [mwp_aLoad_map (by simp (disch := first | omega | decide) only [go_sem, f0]; rfl) (by first | omega | decide | (simp; omega)) (fun _ => rfl)] | rw [mwp_aLoad_frz (by simp (disch := first | omega | decide) only [go_sem, f0]; rfl) (by first | omega | decide | (simp; omega)) (fun _ => rfl)] | rw [mwp_aLoad_e1 (by simp (disch := first | omega | decide) only [go_sem, f0]; rfl) (by first | rfl | simp) rfl] | rw [mwp_aLoad_f1 (by simp (disch := first | omega | decide) only [go_sem, f0]; rfl) (by rfl) rfl] | skip
    exact hK _
  iterate 1 (apply aops_step (by decide) rfl; · (intro K hK; simp (disch := first | omega | decide) only [go_sem, f0]; exact hK _))
  apply aops_merge' (by decide) (by first | exact want_of (d := 14) rfl (by simp (disch := first | omega | decide) only [go_sem, f0, opn_cond]; rfl) | exact want_of_cond (d := 14) rfl (by simp (disch := first | omega | decide) only [go_sem, f0, opn_cond]; rfl))
  · intro hc K hK
    have hc2 := hc
    simp only [beq_iff_eq, decide_eq_true_eq, decide_eq_false_iff_not, Bool.or_eq_true, Bool.and_eq_true, Bool.or_eq_false_iff, Bool.and_eq_false_iff] at hc2
    simp (disch := first | omega | decide) only [go_sem, f0, opn_cond, hc, if_true]
    exact hK _
  apply aops_merge' (by decide) (by first | exact want_of (d := 14) rfl (by simp (disch := first | omega | decide) only [go_sem, f0, opn_cond]; rfl) | exact want_of_cond (d := 14) rfl (by simp (disch := first | omega | decide) only [go_sem, f0, opn_cond]; rfl))
  · intro hc K hK
    have hc2 := hc
    simp only [beq_iff_eq, decide_eq_true_eq, decide_eq_false_iff_not, Bool.or_eq_true, Bool.and_eq_true, Bool.or_eq_false_iff, Bool.and_eq_false_iff] at hc2
    simp (disch := first | omega | decide) only [go_sem, f0, opn_cond, hc, if_true, act_convI u68 u3]
    exact hK _
  apply aops_merge' (by decide) (by first | exact want_of (d := 14) rfl (by simp (disch := first | omega | decide) only [go_sem, f0, opn_cond]; rfl) | exact want_of_cond (d := 14) rfl (by simp (disch := first | omega | decide) only [go_sem, f0, opn_cond]; rfl))
  · intro hc K hK
    have hc2 := hc
    simp only [beq_iff_eq, decide_eq_true_eq, decide_eq_false_iff_not, Bool.or_eq_true, Bool.and_eq_true, Bool.or_eq_false_iff, Bool.and_eq_false_iff] at hc2
    simp (disch := first | omega | decide) only [go_sem, f0, opn_cond, hc, if_true, act_fieldAddr_t fo87_0]
    first | rw [mwp_fieldAddr_b (by simp (disch := first | omega | decide) only [go_sem, f0, opn_cond, hc, if_true]; rfl)] | skip
    exact hK _
  apply aops_merge' (by decide) (by first | exact want_of (d := 14) rfl (by simp (disch := first | omega | decide) only [go_sem, f0, opn_cond]; rfl) | exact want_of_cond (d := 14) rfl (by simp (disch := first | omega | decide) only [go_sem, f0, opn_cond]; rfl))
  · intro hc K hK
    have hc2 := hc
    simp only [beq_iff_eq, decide_eq_true_eq, decide_eq_false_iff_not, Bool.or_eq_true, Bool.and_eq_true, Bool.or_eq_false_iff, Bool.and_eq_false_iff] at hc2
    simp (disch := first | omega | decide) only [go_sem, f0, opn_cond, hc, if_true, act_load_t ti22]
    first | rw [mwp_load_i1 (by rfl)] | rw [mwp_load_g1 (by first | (rw [hG]; rfl) | rfl | (simp only [mset_G, hG]; rfl)) (by rfl)] | rw [mwp_load_gs (by first | (rw [hG]; rfl) | rfl | (simp only [mset_G, hG]; rfl)) (by simp)] | rw [mwp_load_bs (by simp (disch := first | omega | decide) only [go_sem, f0, opn_cond, hc, if_true]; rfl) (by simp [setAt])] | rw [mwp_load_b1 (by simp (disch := first | omega | decide) only [go_sem, f0, opn_cond, hc, if_true]; rfl) (by rfl)] | rw [mwp_aLoad_map (by simp (disch := first | omega | decide) only [go_sem, f0, opn_cond, hc, if_true]; rfl) (by first | omega | decide | (simp; omega)) (fun _ => rfl)] | rw [mwp_aLoad_frz (by simp (disch := first | omega | decide) only [go_sem, f0, opn_cond, hc, if_true]; rfl) (by first | omega | decide | (simp; omega)) (fun _ => rfl)] | rw [mwp_aLoad_e1 (by simp (disch := first | omega | decide) only [go_sem, f0, opn_cond, hc, if_true]; rfl) (by first | rfl | simp) rfl] | rw [mwp_aLoad_f1 (by simp (disch := first | omega | decide) only [go_sem, f0, opn_cond, hc, if_true]; rfl) (by rfl) rfl] | skip
    exact hK _
  apply aops_merge' (by decide) (by first | exact want_of (d := 14) rfl (by simp (disch := first | omega | decide) only [go_sem, f0, opn_cond]; rfl) | exact want_of_cond (d := 14) rfl (by simp (disch := first | omega | decide) only [go_sem, f0, opn_cond]; rfl))
  · intro hc K hK
    have hc2 := hc
    simp only [beq_iff_eq, decide_eq_true_eq, decide_eq_false_iff_not, Bool.or_eq_true, Bool.and_eq_true, Bool.or_eq_false_iff, Bool.and_eq_false_iff] at hc2
    simp (disch := first | omega | decide) only [go_sem, f0, opn_cond, hc, if_true, List.map, List.length_map, aops_len u22]
    exact hK _
  apply aops_merge' (by decide) (by first | exact want_of (d := 14) rfl (by simp (disch := first | omega | decide) only [go_sem, f0, opn_cond]; rfl) | exact want_of_cond (d := 14) rfl (by simp (disch := first | omega | decide) only [go_sem, f0, opn_cond]; rfl))
  · intro hc K hK
    have hc2 := hc
    simp only [beq_iff_eq, decide_eq_true_eq, decide_eq_false_iff_not, Bool.or_eq_true, Bool.and_eq_true, Bool.or_eq_false_iff, Bool.and_eq_false_iff] at hc2
    simp (disch := first | omega | decide) only [go_sem, f0, opn_cond, hc, if_true, act_fieldAddr_t fo87_1]
    first | rw [mwp_fieldAddr_b (by simp (disch := first | omega | decide) only [go_sem, f0, opn_cond, hc, if_true]; rfl)] | skip
    exact hK _
  apply aops_merge' (by decide) (by first | exact want_of (d := 14) rfl (by simp (disch := first | omega | decide) only [go_sem, f0, opn_cond]; rfl) | exact want_of_cond (d := 14) rfl (by simp (disch := first | omega | decide) only [go_sem, f0, opn_cond]; rfl))
  · intro hc K hK
    have hc2 := hc
    simp only [beq_iff_eq, decide_eq_true_eq, decide_eq_false_iff_not, Bool.or_eq_true, Bool.and_eq_true, Bool.or_eq_false_iff, Bool.and_eq_false_iff] at hc2
    simp (disch := first | omega | decide) only [go_sem, f0, opn_cond, hc, if_true, act_load_t ti3]
    first | rw [mwp_load_i1 (by rfl)] | rw [mwp_load_g1 (by first | (rw [hG]; rfl) | rfl | (simp only [mset_G, hG]; rfl)) (by rfl)] | rw [mwp_load_gs (by first | (rw [hG]; rfl) | rfl | (simp only [mset_G, hG]; rfl)) (by simp)] | rw [mwp_load_bs (by simp (disch := first | omega | decide) only [go_sem, f0, opn_cond, hc, if_true]; rfl) (by simp [setAt])] | rw [mwp_load_b1 (by simp (disch := first | omega | decide) only [go_sem, f0, opn_cond, hc, if_true]; rfl) (by rfl)] | rw [mwp_aLoad_map (by simp (disch := first | omega | decide) only [go_sem, f0, opn_cond, hc, if_true]; rfl) (by first | omega | decide | (simp; omega)) (fun _ => rfl)] | rw [mwp_aLoad_frz (by simp (disch := first | omega | decide) only [go_sem, f0, opn_cond, hc, if_true]; rfl) (by first | omega | decide | (simp; omega)) (fun _ => rfl)] | rw [mwp_aLoad_e1 (by simp (disch := first | omega | decide) only [go_sem, f0, opn_cond, hc, if_true]; rfl) (by first | rfl | simp) rfl] | rw [mwp_aLoad_f1 (by simp (disch := first | omega | decide) only [go_sem, f0, opn_cond, hc, if_true]; rfl) (by rfl) rfl] | skip
    exact hK _
  apply aops_merge' (by decide) (by first | exact want_of (d := 14) rfl (by simp (disch := first | omega | decide) only [go_sem, f0, opn_cond]; rfl) | exact want_of_cond (d := 14) rfl (by simp (disch := first | omega | decide) only [go_sem, f0, opn_cond]; rfl))
  · intro hc K hK
    have hc2 := hc
    simp only [beq_iff_eq, decide_eq_true_eq, decide_eq_false_iff_not, Bool.or_eq_true, Bool.and_eq_true, Bool.or_eq_false_iff, Bool.and_eq_false_iff] at hc2
    simp (disch := first | omega | decide) only [go_sem, f0, opn_cond, hc, if_true]
    exact hK _
  apply aops_merge' (by decide) (by first | exact want_of (d := 14) rfl (by simp (disch := first | omega | decide) only [go_sem, f0, opn_cond]; rfl) | exact want_of_cond (d := 14) rfl (by simp (disch := first | omega | decide) only [go_sem, f0, opn_cond]; rfl))
  · intro hc K hK
    have hc2 := hc
    simp only [beq_iff_eq, decide_eq_true_eq, decide_eq_false_iff_not, Bool.or_eq_true, Bool.and_eq_true, Bool.or_eq_false_iff, Bool.and_eq_false_iff] at hc2
    simp (disch := first | omega | decide) only [go_sem, f0, opn_cond, hc, if_true]
    exact hK _
  iterate 1 (apply aops_step (by decide) rfl; · (intro K hK; simp (disch := first | omega | decide) only [go_sem, f0]; exact hK _))
  refine aops_nil ?_
  apply AW.cond
  · simp (disch := first | omega | decide) only [go_sem, f0]; rfl
  case ht =>
    intro hb
    try simp only [Bool.or_eq_true, Bool.and_eq_true, Bool.or_eq_false_iff, Bool.and_eq_false_iff, decide_eq_true_eq, decide_eq_false_iff_not] at hb
    have hbt24 := hb
    refine AW.seq ?_
    refine AW.region (cfg := cfg) ?_
    apply aops_step (by decide) rfl
    · intro K hK
      simp (disch := first | omega | decide) only [go_sem, f0, act_fieldAddr_t fo87_2, List.map]
      first | rw [mwp_fieldAddr_b (by simp (disch := first | omega | decide) only [go_sem, f0]; rfl)] | skip
      exact hK _
    apply aops_step0 rfl
    · intro K hK
      simp (disch := first | omega | decide) only [go_sem, f0, act_store_t ti4, List.map]
      first | rw [mwp_store_g1 (by first | (rw [hG]; rfl) | rfl | (simp only [mset_G, hG]; rfl)) (by simp) rfl rfl] | rw [mwp_store_c (by simp (disch := first | omega | decide) only [go_sem, f0]; rfl) (by rfl) (by rfl) (by rfl) (by simp)] | rw [mwp_aStore_map (by simp (disch := first | omega | decide) only [go_sem, f0]; rfl) (by first | omega | (simp; omega)) (fun _ => rfl) rfl rfl (fun _ => rfl)] | skip
      try simp only [setAt, cellsL, cellsOf_agg, cellsOf_base, List.map_cons, List.map_nil, List.set_cons_zero, List.set_cons_succ, Nat.reduceAdd, Nat.zero_add, hG]
      exact hK _
    refine aops_nil ?_
    refine AW.seq ?_
    refine AW.region (cfg := cfg) ?_
    apply aops_step (by decide) rfl
    · intro K hK
      simp (disch := first | omega | decide) only [go_sem, f0, act_load_t ti87, List.map]
      first | rw [mwp_load_i1 (by rfl)] | rw [mwp_load_g1 (by first | (rw [hG]; rfl) | rfl | (simp only [mset_G, hG]; rfl)) (by rfl)] | rw [mwp_load_gs (by first | (rw [hG]; rfl) | rfl | (simp only [mset_G, hG]; rfl)) (by simp)] | rw [mwp_load_bs (by simp (disch := first | omega | decide) only [go_sem, f0]; rfl) (by simp [setAt])] | rw [mwp_load_b1 (by simp (disch := first | omega | decide) only [go_sem, f0]; rfl) (by rfl)] | rw [mwp_aLoad_map (by simp (disch := first | omega | decide) only [go_sem, f0]; rfl) (by first | omega | decide | (simp; omega)) (fun _ => rfl)] | rw [mwp_aLoad_frz (by simp (disch := first | omega | decide) only [go_sem, f0]; rfl) (by first | omega | decide | (simp; omega)) (fun _ => rfl)] | rw [mwp_aLoad_e1 (by simp (disch := first | omega | decide) only [go_sem, f0]; rfl) (by first | rfl | simp) rfl] | rw [mwp_aLoad_f1 (by simp (disch := first | omega | decide) only [go_sem, f0]; rfl) (by rfl) rfl] | skip
      exact hK _
    apply aops_step0 rfl
    · intro K hK
      simp (disch := first | omega | decide) only [go_sem, f0, act_store_t ti87, List.map]
      first | rw [mwp_store_g1 (by first | (rw [hG]; rfl) | rfl | (simp only [mset_G, hG]; rfl)) (by simp) rfl rfl] | rw [mwp_store_c (by simp (disch := first | omega | decide) only [go_sem, f0]; rfl) (by rfl) (by rfl) (by rfl) (by simp)] | rw [mwp_aStore_map (by simp (disch := first | omega | decide) only [go_sem, f0]; rfl) (by first | omega | (simp; omega)) (fun _ => rfl) rfl rfl (fun _ => rfl)] | skip
      try simp only [setAt, cellsL, cellsOf_agg, cellsOf_base, List.map_cons, List.map_nil, List.set_cons_zero, List.set_cons_succ, Nat.reduceAdd, Nat.zero_add, hG]
      exact hK _
    iterate 1 (apply aops_step (by decide) rfl; · (intro K hK; simp (disch := first | omega | decide) only [go_sem, f0]; exact hK _))
    refine aops_nil ?_
    refine AW.ret ?_
    refine ⟨.inr rfl, ?_⟩
    all_goals first | (have hb0 : sBad l at_ w = true := (by simpa [sBad] using hbt24); obtain ⟨e1, e2⟩ := s_bad hb0; rw [nilS, hb0, e1, e2]; refine ⟨_, nilEq_same (nilEq_nil (s := 0) (nilEq_refl _)), ?_⟩; refine leaves_mwp2 (rs := [.cell 2 87, .tmp 3]) rfl ?_; simp (config := {failIfUnchanged := false}) [giveL, srcOne, rehome, freezeN, sub, ti87, upd, opn, aLoad, loadL, giveOne, reify, reifyL, readL, readOne, Mwp, M.bind, Mem.set, setAt, cellsL, hG, f0]; done) | (rw [nilS, hb0, e1, e2]; refine leavesN ?_; refine leaves_mwp2 (rs := [.cell 2 87, .tmp 3]) rfl ?_; simp (config := {failIfUnchanged := false}) [giveL, srcOne, rehome, freezeN, sub, ti87, upd, opn, aLoad, loadL, giveOne, reify, reifyL, readL, readOne, Mwp, M.bind, Mem.set, setAt, cellsL, hG, f0]; refine ⟨⟨by omega, e4⟩, ?_⟩; first | done | (rw [List.take_of_length_le (by simp)]; done) | (simp [List.take_of_length_le]; done) | trace_state) | trace_state
  case hf =>
    intro hb
    try simp only [Bool.or_eq_true, Bool.and_eq_true, Bool.or_eq_false_iff, Bool.and_eq_false_iff, decide_eq_true_eq, decide_eq_false_iff_not] at hb
    have hbt24 := hb
    refine AW.skip ?_
    refine AW.seq ?_
    have hb0 : sBad l at_ w = false := by simpa [sBad] using hbt24
    obtain ⟨e1, e2⟩ := s_ok hb0
    obtain ⟨e3, e4, e5⟩ := s_w hb0
    have e6 := cut_take (l := l) (a := rA l at_ w 2) (v := rV l at_ w 2) (by omega)
    refine AW.region (cfg := cfg) ?_
    apply aops_step (by decide) rfl
    · intro K hK
      rw [act_bs el22 ti5]
      first | (simp [-List.map_take, -List.map_drop, -BitVec.toNat_ofInt, -BitVec.ofInt_natCast, go_sem, elems_v, cellishAV, Value.oneCell', isAggAV, partsOf, TI.z, TI.mk1, f0, e6]; exact hK _) | (simp (disch := first | omega | decide) only [go_sem, f0, e6, List.map, elems_cons]; rw [if_pos (by decide)]; simp (disch := first | omega | decide) only [go_sem, f0, e6, List.map, elems_cons]; rw [mwp_reify_own (by simp (disch := first | omega | decide) only [go_sem, f0, e6, List.map, elems_cons]; rfl)]; (first | rw [sub_full (by simp)] | skip); simp [-List.map_take, -List.map_drop, -BitVec.toNat_ofInt, go_sem, cellishAV, Value.oneCell', isAggAV, partsOf, TI.z, TI.mk1, mwp_if, sub]; exact hK _)
    apply aops_step (by decide) rfl
    · intro K hK
      simp (disch := first | omega | decide) only [go_sem, f0, e6, act_fieldAddr_t fo87_0, List.map]
      first | rw [mwp_fieldAddr_b (by simp (disch := first | omega | decide) only [go_sem, f0, e6]; rfl)] | skip
      exact hK _
    apply aops_step (by decide) rfl
    · intro K hK
      simp (disch := first | omega | decide) only [go_sem, f0, e6, act_load_t ti22, List.map]
      first | rw [mwp_load_i1 (by rfl)] | rw [mwp_load_g1 (by first | (rw [hG]; rfl) | rfl | (simp only [mset_G, hG]; rfl)) (by rfl)] | rw [mwp_load_gs (by first | (rw [hG]; rfl) | rfl | (simp only [mset_G, hG]; rfl)) (by simp)] | rw [mwp_load_bs (by simp (disch := first | omega | decide) only [go_sem, f0, e6]; rfl) (by simp [setAt])] | rw [mwp_load_b1 (by simp (disch := first | omega | decide) only [go_sem, f0, e6]; rfl) (by rfl)] | rw [mwp_aLoad_map (by simp (disch := first | omega | decide) only [go_sem, f0, e6]; rfl) (by first | omega | decide | (simp; omega)) (fun _ => rfl)] | rw [mwp_aLoad_frz (by simp (disch := first | omega | decide) only [go_sem, f0, e6]; rfl) (by first | omega | decide | (simp; omega)) (fun _ => rfl)] | rw [mwp_aLoad_e1 (by simp (disch := first | omega | decide) only [go_sem, f0, e6]; rfl) (by first | rfl | simp) rfl] | rw [mwp_aLoad_f1 (by simp (disch := first | omega | decide) only [go_sem, f0, e6]; rfl) (by rfl) rfl] | skip
      exact hK _
    apply aops_step (by decide) rfl
    · intro K hK
      simp (disch := first | omega | decide) only [go_sem, f0, e6, act_fieldAddr_t fo87_1, List.map]
      first | rw [mwp_fieldAddr_b (by simp (disch := first | omega | decide) only [go_sem, f0, e6]; rfl)] | skip
      exact hK _
    apply aops_step (by decide) rfl
    · intro K hK
      simp (disch := first | omega | decide) only [go_sem, f0, e6, act_load_t ti3, List.map]
      first | rw [mwp_load_i1 (by rfl)] | rw [mwp_load_g1 (by first | (rw [hG]; rfl) | rfl | (simp only [mset_G, hG]; rfl)) (by rfl)] | rw [mwp_load_gs (by first | (rw [hG]; rfl) | rfl | (simp only [mset_G, hG]; rfl)) (by simp)] | rw [mwp_load_bs (by simp (disch := first | omega | decide) only [go_sem, f0, e6]; rfl) (by simp [setAt])] | rw [mwp_load_b1 (by simp (disch := first | omega | decide) only [go_sem, f0, e6]; rfl) (by rfl)] | rw [mwp_aLoad_map (by simp (disch := first | omega | decide) only [go_sem, f0, e6]; rfl) (by first | omega | decide | (simp; omega)) (fun _ => rfl)] | rw [mwp_aLoad_frz (by simp (disch := first | omega | decide) only [go_sem, f0, e6]; rfl) (by first | omega | decide | (simp; omega)) (fun _ => rfl)] | rw [mwp_aLoad_e1 (by simp (disch := first | omega | decide) only [go_sem, f0, e6]; rfl) (by first | rfl | simp) rfl] | rw [mwp_aLoad_f1 (by simp (disch := first | omega | decide) only [go_sem, f0, e6]; rfl) (by rfl) rfl] | skip
      exact hK _
    apply aops_step (by decide) rfl
    · intro K hK
      simp (disch := first | omega | decide) only [go_sem, f0, e6, act_fieldAddr_t fo87_1, List.map]
      first | rw [mwp_fieldAddr_b (by simp (disch := first | omega | decide) only [go_sem, f0, e6]; rfl)] | skip
      exact hK _
    apply aops_step (by decide) rfl
    · intro K hK
      simp (disch := first | omega | decide) only [go_sem, f0, e6, act_load_t ti3, List.map]
      first | rw [mwp_load_i1 (by rfl)] | rw [mwp_load_g1 (by first | (rw [hG]; rfl) | rfl | (simp only [mset_G, hG]; rfl)) (by rfl)] | rw [mwp_load_gs (by first | (rw [hG]; rfl) | rfl | (simp only [mset_G, hG]; rfl)) (by simp)] | rw [mwp_load_bs (by simp (disch := first | omega | decide) only [go_sem, f0, e6]; rfl) (by simp [setAt])] | rw [mwp_load_b1 (by simp (disch := first | omega | decide) only [go_sem, f0, e6]; rfl) (by rfl)] | rw [mwp_aLoad_map (by simp (disch := first | omega | decide) only [go_sem, f0, e6]; rfl) (by first | omega | decide | (simp; omega)) (fun _ => rfl)] | rw [mwp_aLoad_frz (by simp (disch := first | omega | decide) only [go_sem, f0, e6]; rfl) (by first | omega | decide | (simp; omega)) (fun _ => rfl)] | rw [mwp_aLoad_e1 (by simp (disch := first | omega | decide) only [go_sem, f0, e6]; rfl) (by first | rfl | simp) rfl] | rw [mwp_aLoad_f1 (by simp (disch := first | omega | decide) only [go_sem, f0, e6]; rfl) (by rfl) rfl] | skip
      exact hK _
    iterate 4 (apply aops_step (by decide) rfl; · (intro K hK; simp (disch := first | omega | decide) only [go_sem, f0, e6, act_convI u68 u3, act_slice_s u22 ti5]; exact hK _))
    apply aops_step (by decide) rfl
    · intro K hK
      simp (disch := first | omega | decide) only [go_sem, f0, e6, List.map]
      apply mwp_append2 el22 ti5 u22
      case hpk => intro Q hQ; first | exact hQ | (rw [peek_own (by simp (disch := first | omega | decide) only [go_sem, f0, e6]; rfl)]; (try rw [sub_full (by first | (simp only [List.length_map, List.length_replicate]; done) | simp)]); exact hQ)
      case hs' => rfl
      case ho => simp (disch := first | omega | decide) only [go_sem, f0, e6]; rfl
      case hsz => rfl
      case hhi => simp
      case hb => simp [sub, roomB]; omega
      case hy => first | exact fun y hy => cells_map (fun _ => rfl) y hy | (simp [sub, cellsOf]; done) | (intro y hy; exact cells_map (k := 1) (fun _ => rfl) y hy)
      case k => (try simp only [List.nil_append, ← List.map_append, Bool.false_and]); exact hK _
    apply aops_step (by decide) rfl
    · intro K hK
      simp (disch := first | omega | decide) only [go_sem, f0, e6]
      rw [asg_tmp (by simp (disch := first | omega | decide) only [go_sem, f0, e6]; rfl)]
      exact hK _
    refine aops_nil ?_
    refine AW.seq ?_
    refine AW.region (cfg := cfg) ?_
    apply aops_step (by decide) rfl
    · intro K hK
      simp (disch := first | omega | decide) only [go_sem, f0, e6, act_fieldAddr_t fo87_1, List.map]
      first | rw [mwp_fieldAddr_b (by simp (disch := first | omega | decide) only [go_sem, f0, e6]; rfl)] | skip
      exact hK _
    apply aops_step (by decide) rfl
    · intro K hK
      simp (disch := first | omega | decide) only [go_sem, f0, e6, act_load_t ti3, List.map]
      first | rw [mwp_load_i1 (by rfl)] | rw [mwp_load_g1 (by first | (rw [hG]; rfl) | rfl | (simp only [mset_G, hG]; rfl)) (by rfl)] | rw [mwp_load_gs (by first | (rw [hG]; rfl) | rfl | (simp only [mset_G, hG]; rfl)) (by simp)] | rw [mwp_load_bs (by simp (disch := first | omega | decide) only [go_sem, f0, e6]; rfl) (by simp [setAt])] | rw [mwp_load_b1 (by simp (disch := first | omega | decide) only [go_sem, f0, e6]; rfl) (by rfl)] | rw [mwp_aLoad_map (by simp (disch := first | omega | decide) only [go_sem, f0, e6]; rfl) (by first | omega | decide | (simp; omega)) (fun _ => rfl)] | rw [mwp_aLoad_frz (by simp (disch := first | omega | decide) only [go_sem, f0, e6]; rfl) (by first | omega | decide | (simp; omega)) (fun _ => rfl)] | rw [mwp_aLoad_e1 (by simp (disch := first | omega | decide) only [go_sem, f0, e6]; rfl) (by first | rfl | simp) rfl] | rw [mwp_aLoad_f1 (by simp (disch := first | omega | decide) only [go_sem, f0, e6]; rfl) (by rfl) rfl] | skip
      exact hK _
    iterate 3 (apply aops_step (by decide) rfl; · (intro K hK; simp (disch := first | omega | decide) only [go_sem, f0, e6, act_convI u68 u3]; exact hK _))
    apply aops_step (by decide) rfl
    · intro K hK
      simp (disch := first | omega | decide) only [go_sem, f0, e6, act_fieldAddr_t fo87_1, List.map]
      first | rw [mwp_fieldAddr_b (by simp (disch := first | omega | decide) only [go_sem, f0, e6]; rfl)] | skip
      exact hK _
    apply aops_step0 rfl
    · intro K hK
      simp (disch := first | omega | decide) only [go_sem, f0, e6, act_store_t ti3, List.map]
      first | rw [mwp_store_g1 (by first | (rw [hG]; rfl) | rfl | (simp only [mset_G, hG]; rfl)) (by simp) rfl rfl] | rw [mwp_store_c (by simp (disch := first | omega | decide) only [go_sem, f0, e6]; rfl) (by rfl) (by rfl) (by rfl) (by simp)] | rw [mwp_aStore_map (by simp (disch := first | omega | decide) only [go_sem, f0, e6]; rfl) (by first | omega | (simp; omega)) (fun _ => rfl) rfl rfl (fun _ => rfl)] | skip
      try simp only [setAt, cellsL, cellsOf_agg, cellsOf_base, List.map_cons, List.map_nil, List.set_cons_zero, List.set_cons_succ, Nat.reduceAdd, Nat.zero_add, hG]
      exact hK _
    refine aops_nil ?_
    refine AW.seq ?_
    refine AW.region (cfg := cfg) ?_
    apply aops_step (by decide) rfl
    · intro K hK
      simp (disch := first | omega | decide) only [go_sem, f0, e6, act_load_t ti87, List.map]
      first | rw [mwp_load_i1 (by rfl)] | rw [mwp_load_g1 (by first | (rw [hG]; rfl) | rfl | (simp only [mset_G, hG]; rfl)) (by rfl)] | rw [mwp_load_gs (by first | (rw [hG]; rfl) | rfl | (simp only [mset_G, hG]; rfl)) (by simp)] | rw [mwp_load_bs (by simp (disch := first | omega | decide) only [go_sem, f0, e6]; rfl) (by simp [setAt])] | rw [mwp_load_b1 (by simp (disch := first | omega | decide) only [go_sem, f0, e6]; rfl) (by rfl)] | rw [mwp_aLoad_map (by simp (disch := first | omega | decide) only [go_sem, f0, e6]; rfl) (by first | omega | decide | (simp; omega)) (fun _ => rfl)] | rw [mwp_aLoad_frz (by simp (disch := first | omega | decide) only [go_sem, f0, e6]; rfl) (by first | omega | decide | (simp; omega)) (fun _ => rfl)] | rw [mwp_aLoad_e1 (by simp (disch := first | omega | decide) only [go_sem, f0, e6]; rfl) (by first | rfl | simp) rfl] | rw [mwp_aLoad_f1 (by simp (disch := first | omega | decide) only [go_sem, f0, e6]; rfl) (by rfl) rfl] | skip
      exact hK _
    iterate 1 (apply aops_step (by decide) rfl; · (intro K hK; simp (disch := first | omega | decide) only [go_sem, f0, e6]; exact hK _))
    apply aops_step0 rfl
    · intro K hK
      simp (disch := first | omega | decide) only [go_sem, f0, e6, act_store_t ti87, List.map]
      first | rw [mwp_store_g1 (by first | (rw [hG]; rfl) | rfl | (simp only [mset_G, hG]; rfl)) (by simp) rfl rfl] | rw [mwp_store_c (by simp (disch := first | omega | decide) only [go_sem, f0, e6]; rfl) (by rfl) (by rfl) (by rfl) (by simp)] | rw [mwp_aStore_map (by simp (disch := first | omega | decide) only [go_sem, f0, e6]; rfl) (by first | omega | (simp; omega)) (fun _ => rfl) rfl rfl (fun _ => rfl)] | skip
      try simp only [setAt, cellsL, cellsOf_agg, cellsOf_base, List.map_cons, List.map_nil, List.set_cons_zero, List.set_cons_succ, Nat.reduceAdd, Nat.zero_add, hG]
      exact hK _
    apply aops_step (by decide) rfl
    · intro K hK
      simp (disch := first | omega | decide) only [go_sem, f0, e6]
      first | rw [asg_mv (by rfl) (by decide) (by simp (disch := first | omega | decide) only [go_sem, f0, e6] <;> rfl)] | rw [asg_fz (by rfl) (by decide) (by simp (disch := first | omega | decide) only [go_sem, f0, e6] <;> rfl)] | skip
      exact hK _
    refine aops_nil ?_
    refine AW.ret ?_
    refine ⟨.inr rfl, ?_⟩
    all_goals first | (have hb0 : sBad l at_ w = true := (by simpa [sBad] using hbt24); obtain ⟨e1, e2⟩ := s_bad hb0; rw [nilS, hb0, e1, e2]; refine ⟨_, nilEq_same (nilEq_nil (s := 0) (nilEq_refl _)), ?_⟩; refine leaves_mwp2 (rs := [.cell 2 87, .tmp 3]) rfl ?_; simp (config := {failIfUnchanged := false}) [giveL, srcOne, rehome, freezeN, sub, ti87, upd, opn, aLoad, loadL, giveOne, reify, reifyL, readL, readOne, Mwp, M.bind, Mem.set, setAt, cellsL, hG, f0, e6]; done) | (rw [nilS, hb0, e1, e2]; refine leavesN ?_; refine leaves_mwp2 (rs := [.cell 2 87, .tmp 3]) rfl ?_; simp (config := {failIfUnchanged := false}) [giveL, srcOne, rehome, freezeN, sub, ti87, upd, opn, aLoad, loadL, giveOne, reify, reifyL, readL, readOne, Mwp, M.bind, Mem.set, setAt, cellsL, hG, f0, e6]; refine ⟨⟨by omega, e4⟩, ?_⟩; first | done | (rw [List.take_of_length_le (by simp)]; done) | (simp [List.take_of_length_le]; done) | trace_state) | trace_state

theorem m2 : (true && !mayW 2) = false := by decide
theorem ns258 : numS 2 258 = [1#8, 2#8] := by decide
theorem d1 : decide ((([] ++ [1#8, 2#8] : List (BitVec 8)).length : Int) = 2) = true := by decide
theorem d2 : decide ((((1#8).toNat : Nat) : Int) = 1) = true := by decide
theorem d3 : decide ((((2#8).toNat : Nat) : Int) = 2) = true := by decide
theorem l2 : (bsl [1#8, 2#8]).length = 2 := rfl
theorem l3 : ((([1#8, 2#8] : List (BitVec 8)).length : Nat) : Int) = 2 := rfl
theorem rn258 : rnV [1#8, 2#8] false 2 = 258 := by decide
theorem rl258 : rnL [1#8, 2#8] false 2 = [] := by decide
theorem rw258 : rnW [1#8, 2#8] false 2 = false := by decide
set_option maxHeartbeats 4000000 in
set_option maxRecDepth 100000 in
theorem good_awake  : Good Try.prog 44 [] [] [(.b true, false)] [] := by
  refine good_of_body4 34 Try.func44 rfl rfl rfl (by simp) (by simp) (by simp [noPtrL, noPtr]) rfl ?_
  intro s m ha hr hv hG
  clear ha
  refine AW.seq ?_
  refine AW.region (cfg := cfg) ?_
  iterate 1 (apply aops_step (by decide) rfl; · (intro K hK; simp (disch := first | omega | decide) only [go_sem, m2, ns258, d1, d2, d3, l2, l3, rn258, rl258, rw258, List.nil_append, List.getElem_cons_zero, List.getElem_cons_succ, eq_self, decide_true, List.length_cons, List.length_nil, Nat.reduceAdd, Int.toNat_zero, Int.toNat_one]; exact hK _))
  refine aops_nil ?_
  refine AW.seq ?_
  refine AW.region (cfg := cfg) ?_
  apply aops_step (by decide) rfl
  · intro K hK
    simp (disch := first | omega | decide) only [go_sem, act_call, List.map, m2, ns258, d1, d2, d3, l2, l3, rn258, rl258, rw258, List.nil_append, List.getElem_cons_zero, List.getElem_cons_succ, eq_self, decide_true, List.length_cons, List.length_nil, Nat.reduceAdd, Int.toNat_zero, Int.toNat_one]
    apply mwp_call_r rfl rfl rfl
    · intro Q hQ
      simp (disch := first | omega | decide) only [go_sem, peekL, reifyL_nil, reifyL_cons, reify_v, m2, ns258, d1, d2, d3, l2, l3, rn258, rl258, rw258, List.nil_append, List.getElem_cons_zero, List.getElem_cons_succ, eq_self, decide_true, List.length_cons, List.length_nil, Nat.reduceAdd, Int.toNat_zero, Int.toNat_one]
      first | exact hQ | (((first | rw [peek_own (by simp (disch := first | omega | decide) only [go_sem, peekL, reifyL_nil, reifyL_cons, reify_v, m2, ns258, d1, d2, d3, l2, l3, rn258, rl258, rw258, List.nil_append, List.getElem_cons_zero, List.getElem_cons_succ, eq_self, decide_true, List.length_cons, List.length_nil, Nat.reduceAdd, Int.toNat_zero, Int.toNat_one]; rfl)] | rw [mwp_reify_own (by simp (disch := first | omega | decide) only [go_sem, peekL, reifyL_nil, reifyL_cons, reify_v, m2, ns258, d1, d2, d3, l2, l3, rn258, rl258, rw258, List.nil_append, List.getElem_cons_zero, List.getElem_cons_succ, eq_self, decide_true, List.length_cons, List.length_nil, Nat.reduceAdd, Int.toNat_zero, Int.toNat_one]; rfl)] | rw [peek_frz (by simp (disch := first | omega | decide) only [go_sem, peekL, reifyL_nil, reifyL_cons, reify_v, m2, ns258, d1, d2, d3, l2, l3, rn258, rl258, rw258, List.nil_append, List.getElem_cons_zero, List.getElem_cons_succ, eq_self, decide_true, List.length_cons, List.length_nil, Nat.reduceAdd, Int.toNat_zero, Int.toNat_one]; rfl)] | rw [reify_frz (by simp (disch := first | omega | decide) only [go_sem, peekL, reifyL_nil, reifyL_cons, reify_v, m2, ns258, d1, d2, d3, l2, l3, rn258, rl258, rw258, List.nil_append, List.getElem_cons_zero, List.getElem_cons_succ, eq_self, decide_true, List.length_cons, List.length_nil, Nat.reduceAdd, Int.toNat_zero, Int.toNat_one]; rfl)]); (try rw [sub_full (by first | (simp only [List.length_map, List.length_replicate]; done) | simp)])); exact hQ) | (((first | rw [peek_own (by simp (disch := first | omega | decide) only [go_sem, peekL, reifyL_nil, reifyL_cons, reify_v, m2, ns258, d1, d2, d3, l2, l3, rn258, rl258, rw258, List.nil_append, List.getElem_cons_zero, List.getElem_cons_succ, eq_self, decide_true, List.length_cons, List.length_nil, Nat.reduceAdd, Int.toNat_zero, Int.toNat_one]; rfl)] | rw [mwp_reify_own (by simp (disch := first | omega | decide) only [go_sem, peekL, reifyL_nil, reifyL_cons, reify_v, m2, ns258, d1, d2, d3, l2, l3, rn258, rl258, rw258, List.nil_append, List.getElem_cons_zero, List.getElem_cons_succ, eq_self, decide_true, List.length_cons, List.length_nil, Nat.reduceAdd, Int.toNat_zero, Int.toNat_one]; rfl)] | rw [peek_frz (by simp (disch := first | omega | decide) only [go_sem, peekL, reifyL_nil, reifyL_cons, reify_v, m2, ns258, d1, d2, d3, l2, l3, rn258, rl258, rw258, List.nil_append, List.getElem_cons_zero, List.getElem_cons_succ, eq_self, decide_true, List.length_cons, List.length_nil, Nat.reduceAdd, Int.toNat_zero, Int.toNat_one]; rfl)] | rw [reify_frz (by simp (disch := first | omega | decide) only [go_sem, peekL, reifyL_nil, reifyL_cons, reify_v, m2, ns258, d1, d2, d3, l2, l3, rn258, rl258, rw258, List.nil_append, List.getElem_cons_zero, List.getElem_cons_succ, eq_self, decide_true, List.length_cons, List.length_nil, Nat.reduceAdd, Int.toNat_zero, Int.toNat_one]; rfl)]); (try rw [sub_full (by first | (simp only [List.length_map, List.length_replicate]; done) | simp)])); (try simp (disch := first | omega | decide) only [go_sem, peekL, reifyL_nil, reifyL_cons, reify_v, m2, ns258, d1, d2, d3, l2, l3, rn258, rl258, rw258, List.nil_append, List.getElem_cons_zero, List.getElem_cons_succ, eq_self, decide_true, List.length_cons, List.length_nil, Nat.reduceAdd, Int.toNat_zero, Int.toNat_one]); ((first | rw [peek_own (by simp (disch := first | omega | decide) only [go_sem, peekL, reifyL_nil, reifyL_cons, reify_v, m2, ns258, d1, d2, d3, l2, l3, rn258, rl258, rw258, List.nil_append, List.getElem_cons_zero, List.getElem_cons_succ, eq_self, decide_true, List.length_cons, List.length_nil, Nat.reduceAdd, Int.toNat_zero, Int.toNat_one]; rfl)] | rw [mwp_reify_own (by simp (disch := first | omega | decide) only [go_sem, peekL, reifyL_nil, reifyL_cons, reify_v, m2, ns258, d1, d2, d3, l2, l3, rn258, rl258, rw258, List.nil_append, List.getElem_cons_zero, List.getElem_cons_succ, eq_self, decide_true, List.length_cons, List.length_nil, Nat.reduceAdd, Int.toNat_zero, Int.toNat_one]; rfl)] | rw [peek_frz (by simp (disch := first | omega | decide) only [go_sem, peekL, reifyL_nil, reifyL_cons, reify_v, m2, ns258, d1, d2, d3, l2, l3, rn258, rl258, rw258, List.nil_append, List.getElem_cons_zero, List.getElem_cons_succ, eq_self, decide_true, List.length_cons, List.length_nil, Nat.reduceAdd, Int.toNat_zero, Int.toNat_one]; rfl)] | rw [reify_frz (by simp (disch := first | omega | decide) only [go_sem, peekL, reifyL_nil, reifyL_cons, reify_v, m2, ns258, d1, d2, d3, l2, l3, rn258, rl258, rw258, List.nil_append, List.getElem_cons_zero, List.getElem_cons_succ, eq_self, decide_true, List.length_cons, List.length_nil, Nat.reduceAdd, Int.toNat_zero, Int.toNat_one]; rfl)]); (try rw [sub_full (by first | (simp only [List.length_map, List.length_replicate]; done) | simp)])); exact hQ) | (((first | rw [peek_own (by simp (disch := first | omega | decide) only [go_sem, peekL, reifyL_nil, reifyL_cons, reify_v, m2, ns258, d1, d2, d3, l2, l3, rn258, rl258, rw258, List.nil_append, List.getElem_cons_zero, List.getElem_cons_succ, eq_self, decide_true, List.length_cons, List.length_nil, Nat.reduceAdd, Int.toNat_zero, Int.toNat_one]; rfl)] | rw [mwp_reify_own (by simp (disch := first | omega | decide) only [go_sem, peekL, reifyL_nil, reifyL_cons, reify_v, m2, ns258, d1, d2, d3, l2, l3, rn258, rl258, rw258, List.nil_append, List.getElem_cons_zero, List.getElem_cons_succ, eq_self, decide_true, List.length_cons, List.length_nil, Nat.reduceAdd, Int.toNat_zero, Int.toNat_one]; rfl)] | rw [peek_frz (by simp (disch := first | omega | decide) only [go_sem, peekL, reifyL_nil, reifyL_cons, reify_v, m2, ns258, d1, d2, d3, l2, l3, rn258, rl258, rw258, List.nil_append, List.getElem_cons_zero, List.getElem_cons_succ, eq_self, decide_true, List.length_cons, List.length_nil, Nat.reduceAdd, Int.toNat_zero, Int.toNat_one]; rfl)] | rw [reify_frz (by simp (disch := first | omega | decide) only [go_sem, peekL, reifyL_nil, reifyL_cons, reify_v, m2, ns258, d1, d2, d3, l2, l3, rn258, rl258, rw258, List.nil_append, List.getElem_cons_zero, List.getElem_cons_succ, eq_self, decide_true, List.length_cons, List.length_nil, Nat.reduceAdd, Int.toNat_zero, Int.toNat_one]; rfl)]); (try rw [sub_full (by first | (simp only [List.length_map, List.length_replicate]; done) | simp)])); simp (disch := first | omega | decide) only [go_sem, peekL, reifyL_nil, reifyL_cons, reify_v, m2, ns258, d1, d2, d3, l2, l3, rn258, rl258, rw258, List.nil_append, List.getElem_cons_zero, List.getElem_cons_succ, eq_self, decide_true, List.length_cons, List.length_nil, Nat.reduceAdd, Int.toNat_zero, Int.toNat_one]; exact hQ)
    · exact (good_Num true [] (by simp) (by simp) 2 258 (by omega)).nil0
    · simp [-List.map_take, -List.map_drop, -List.map_append, -List.map_replicate, -List.reduceReplicate, noPtrL, noPtr, noPtrL_bsl, noPtrL_map, sub]
    · rw [resOf_own1 (by first | (simp (disch := decide) only [mset_ne, hr]; done) | simp [Mem.set, hr])]
      exact hK _
  apply aops_step (by decide) rfl
  · intro K hK
    simp (disch := first | omega | decide) only [go_sem, m2, ns258, d1, d2, d3, l2, l3, rn258, rl258, rw258, List.nil_append, List.getElem_cons_zero, List.getElem_cons_succ, eq_self, decide_true, List.length_cons, List.length_nil, Nat.reduceAdd, Int.toNat_zero, Int.toNat_one]
    rw [asg_tmp (by simp (disch := first | omega | decide) only [go_sem, m2, ns258, d1, d2, d3, l2, l3, rn258, rl258, rw258, List.nil_append, List.getElem_cons_zero, List.getElem_cons_succ, eq_self, decide_true, List.length_cons, List.length_nil, Nat.reduceAdd, Int.toNat_zero, Int.toNat_one]; rfl)]
    exact hK _
  refine aops_nil ?_
  refine AW.seq ?_
  refine AW.region (cfg := cfg) ?_
  iterate 1 (apply aops_step (by decide) rfl; · (intro K hK; simp (disch := first | omega | decide) only [go_sem, m2, ns258, d1, d2, d3, l2, l3, rn258, rl258, rw258, List.nil_append, List.getElem_cons_zero, List.getElem_cons_succ, eq_self, decide_true, List.length_cons, List.length_nil, Nat.reduceAdd, Int.toNat_zero, Int.toNat_one]; exact hK _))
  apply aops_step (by decide) rfl
  · intro K hK
    simp (disch := first | omega | decide) only [go_sem, act_call, List.map, m2, ns258, d1, d2, d3, l2, l3, rn258, rl258, rw258, List.nil_append, List.getElem_cons_zero, List.getElem_cons_succ, eq_self, decide_true, List.length_cons, List.length_nil, Nat.reduceAdd, Int.toNat_zero, Int.toNat_one]
    apply mwp_call_g rfl rfl rfl
    · intro Q hQ
      simp (disch := first | omega | decide) only [go_sem, peekL, reifyL_nil, reifyL_cons, reify_v, m2, ns258, d1, d2, d3, l2, l3, rn258, rl258, rw258, List.nil_append, List.getElem_cons_zero, List.getElem_cons_succ, eq_self, decide_true, List.length_cons, List.length_nil, Nat.reduceAdd, Int.toNat_zero, Int.toNat_one]
      first | exact hQ | (((first | rw [peek_own (by simp (disch := first | omega | decide) only [go_sem, peekL, reifyL_nil, reifyL_cons, reify_v, m2, ns258, d1, d2, d3, l2, l3, rn258, rl258, rw258, List.nil_append, List.getElem_cons_zero, List.getElem_cons_succ, eq_self, decide_true, List.length_cons, List.length_nil, Nat.reduceAdd, Int.toNat_zero, Int.toNat_one]; rfl)] | rw [mwp_reify_own (by simp (disch := first | omega | decide) only [go_sem, peekL, reifyL_nil, reifyL_cons, reify_v, m2, ns258, d1, d2, d3, l2, l3, rn258, rl258, rw258, List.nil_append, List.getElem_cons_zero, List.getElem_cons_succ, eq_self, decide_true, List.length_cons, List.length_nil, Nat.reduceAdd, Int.toNat_zero, Int.toNat_one]; rfl)] | rw [peek_frz (by simp (disch := first | omega | decide) only [go_sem, peekL, reifyL_nil, reifyL_cons, reify_v, m2, ns258, d1, d2, d3, l2, l3, rn258, rl258, rw258, List.nil_append, List.getElem_cons_zero, List.getElem_cons_succ, eq_self, decide_true, List.length_cons, List.length_nil, Nat.reduceAdd, Int.toNat_zero, Int.toNat_one]; rfl)] | rw [reify_frz (by simp (disch := first | omega | decide) only [go_sem, peekL, reifyL_nil, reifyL_cons, reify_v, m2, ns258, d1, d2, d3, l2, l3, rn258, rl258, rw258, List.nil_append, List.getElem_cons_zero, List.getElem_cons_succ, eq_self, decide_true, List.length_cons, List.length_nil, Nat.reduceAdd, Int.toNat_zero, Int.toNat_one]; rfl)]); (try rw [sub_full (by first | (simp only [List.length_map, List.length_replicate]; done) | simp)])); exact hQ) | (((first | rw [peek_own (by simp (disch := first | omega | decide) only [go_sem, peekL, reifyL_nil, reifyL_cons, reify_v, m2, ns258, d1, d2, d3, l2, l3, rn258, rl258, rw258, List.nil_append, List.getElem_cons_zero, List.getElem_cons_succ, eq_self, decide_true, List.length_cons, List.length_nil, Nat.reduceAdd, Int.toNat_zero, Int.toNat_one]; rfl)] | rw [mwp_reify_own (by simp (disch := first | omega | decide) only [go_sem, peekL, reifyL_nil, reifyL_cons, reify_v, m2, ns258, d1, d2, d3, l2, l3, rn258, rl258, rw258, List.nil_append, List.getElem_cons_zero, List.getElem_cons_succ, eq_self, decide_true, List.length_cons, List.length_nil, Nat.reduceAdd, Int.toNat_zero, Int.toNat_one]; rfl)] | rw [peek_frz (by simp (disch := first | omega | decide) only [go_sem, peekL, reifyL_nil, reifyL_cons, reify_v, m2, ns258, d1, d2, d3, l2, l3, rn258, rl258, rw258, List.nil_append, List.getElem_cons_zero, List.getElem_cons_succ, eq_self, decide_true, List.length_cons, List.length_nil, Nat.reduceAdd, Int.toNat_zero, Int.toNat_one]; rfl)] | rw [reify_frz (by simp (disch := first | omega | decide) only [go_sem, peekL, reifyL_nil, reifyL_cons, reify_v, m2, ns258, d1, d2, d3, l2, l3, rn258, rl258, rw258, List.nil_append, List.getElem_cons_zero, List.getElem_cons_succ, eq_self, decide_true, List.length_cons, List.length_nil, Nat.reduceAdd, Int.toNat_zero, Int.toNat_one]; rfl)]); (try rw [sub_full (by first | (simp only [List.length_map, List.length_replicate]; done) | simp)])); (try simp (disch := first | omega | decide) only [go_sem, peekL, reifyL_nil, reifyL_cons, reify_v, m2, ns258, d1, d2, d3, l2, l3, rn258, rl258, rw258, List.nil_append, List.getElem_cons_zero, List.getElem_cons_succ, eq_self, decide_true, List.length_cons, List.length_nil, Nat.reduceAdd, Int.toNat_zero, Int.toNat_one]); ((first | rw [peek_own (by simp (disch := first | omega | decide) only [go_sem, peekL, reifyL_nil, reifyL_cons, reify_v, m2, ns258, d1, d2, d3, l2, l3, rn258, rl258, rw258, List.nil_append, List.getElem_cons_zero, List.getElem_cons_succ, eq_self, decide_true, List.length_cons, List.length_nil, Nat.reduceAdd, Int.toNat_zero, Int.toNat_one]; rfl)] | rw [mwp_reify_own (by simp (disch := first | omega | decide) only [go_sem, peekL, reifyL_nil, reifyL_cons, reify_v, m2, ns258, d1, d2, d3, l2, l3, rn258, rl258, rw258, List.nil_append, List.getElem_cons_zero, List.getElem_cons_succ, eq_self, decide_true, List.length_cons, List.length_nil, Nat.reduceAdd, Int.toNat_zero, Int.toNat_one]; rfl)] | rw [peek_frz (by simp (disch := first | omega | decide) only [go_sem, peekL, reifyL_nil, reifyL_cons, reify_v, m2, ns258, d1, d2, d3, l2, l3, rn258, rl258, rw258, List.nil_append, List.getElem_cons_zero, List.getElem_cons_succ, eq_self, decide_true, List.length_cons, List.length_nil, Nat.reduceAdd, Int.toNat_zero, Int.toNat_one]; rfl)] | rw [reify_frz (by simp (disch := first | omega | decide) only [go_sem, peekL, reifyL_nil, reifyL_cons, reify_v, m2, ns258, d1, d2, d3, l2, l3, rn258, rl258, rw258, List.nil_append, List.getElem_cons_zero, List.getElem_cons_succ, eq_self, decide_true, List.length_cons, List.length_nil, Nat.reduceAdd, Int.toNat_zero, Int.toNat_one]; rfl)]); (try rw [sub_full (by first | (simp only [List.length_map, List.length_replicate]; done) | simp)])); exact hQ) | (((first | rw [peek_own (by simp (disch := first | omega | decide) only [go_sem, peekL, reifyL_nil, reifyL_cons, reify_v, m2, ns258, d1, d2, d3, l2, l3, rn258, rl258, rw258, List.nil_append, List.getElem_cons_zero, List.getElem_cons_succ, eq_self, decide_true, List.length_cons, List.length_nil, Nat.reduceAdd, Int.toNat_zero, Int.toNat_one]; rfl)] | rw [mwp_reify_own (by simp (disch := first | omega | decide) only [go_sem, peekL, reifyL_nil, reifyL_cons, reify_v, m2, ns258, d1, d2, d3, l2, l3, rn258, rl258, rw258, List.nil_append, List.getElem_cons_zero, List.getElem_cons_succ, eq_self, decide_true, List.length_cons, List.length_nil, Nat.reduceAdd, Int.toNat_zero, Int.toNat_one]; rfl)] | rw [peek_frz (by simp (disch := first | omega | decide) only [go_sem, peekL, reifyL_nil, reifyL_cons, reify_v, m2, ns258, d1, d2, d3, l2, l3, rn258, rl258, rw258, List.nil_append, List.getElem_cons_zero, List.getElem_cons_succ, eq_self, decide_true, List.length_cons, List.length_nil, Nat.reduceAdd, Int.toNat_zero, Int.toNat_one]; rfl)] | rw [reify_frz (by simp (disch := first | omega | decide) only [go_sem, peekL, reifyL_nil, reifyL_cons, reify_v, m2, ns258, d1, d2, d3, l2, l3, rn258, rl258, rw258, List.nil_append, List.getElem_cons_zero, List.getElem_cons_succ, eq_self, decide_true, List.length_cons, List.length_nil, Nat.reduceAdd, Int.toNat_zero, Int.toNat_one]; rfl)]); (try rw [sub_full (by first | (simp only [List.length_map, List.length_replicate]; done) | simp)])); simp (disch := first | omega | decide) only [go_sem, peekL, reifyL_nil, reifyL_cons, reify_v, m2, ns258, d1, d2, d3, l2, l3, rn258, rl258, rw258, List.nil_append, List.getElem_cons_zero, List.getElem_cons_succ, eq_self, decide_true, List.length_cons, List.length_nil, Nat.reduceAdd, Int.toNat_zero, Int.toNat_one]; exact hQ)
    · first | exact hG | rfl | (simp only [mset_G, hG]; rfl)
    · exact good_Read false [1#8, 2#8] (by simp) (by simp)
    · simp (disch := first | omega | decide) only [go_sem, m2, ns258, d1, d2, d3, l2, l3, rn258, rl258, rw258, List.nil_append, List.getElem_cons_zero, List.getElem_cons_succ, eq_self, decide_true, List.length_cons, List.length_nil, Nat.reduceAdd, Int.toNat_zero, Int.toNat_one]
      exact hK _
  iterate 1 (apply aops_step (by decide) rfl; · (intro K hK; simp (disch := first | omega | decide) only [go_sem, m2, ns258, d1, d2, d3, l2, l3, rn258, rl258, rw258, List.nil_append, List.getElem_cons_zero, List.getElem_cons_succ, eq_self, decide_true, List.length_cons, List.length_nil, Nat.reduceAdd, Int.toNat_zero, Int.toNat_one]; exact hK _))
  refine aops_nil ?_
  refine AW.seq ?_
  refine AW.region (cfg := cfg) ?_
  iterate 1 (apply aops_step (by decide) rfl; · (intro K hK; simp (disch := first | omega | decide) only [go_sem, m2, ns258, d1, d2, d3, l2, l3, rn258, rl258, rw258, List.nil_append, List.getElem_cons_zero, List.getElem_cons_succ, eq_self, decide_true, List.length_cons, List.length_nil, Nat.reduceAdd, Int.toNat_zero, Int.toNat_one]; exact hK _))
  apply aops_step (by decide) rfl
  · intro K hK
    simp (disch := first | omega | decide) only [go_sem, List.map, List.length_map, aops_len u22, m2, ns258, d1, d2, d3, l2, l3, rn258, rl258, rw258, List.nil_append, List.getElem_cons_zero, List.getElem_cons_succ, eq_self, decide_true, List.length_cons, List.length_nil, Nat.reduceAdd, Int.toNat_zero, Int.toNat_one]
    first | (exact hK _) | ((first | rw [mwp_len_own u22 (by simp (disch := first | omega | decide) only [go_sem, List.map, m2, ns258, d1, d2, d3, l2, l3, rn258, rl258, rw258, List.nil_append, List.getElem_cons_zero, List.getElem_cons_succ, eq_self, decide_true, List.length_cons, List.length_nil, Nat.reduceAdd, Int.toNat_zero, Int.toNat_one]; rfl)] | rw [mwp_len_frz u22 (by simp (disch := first | omega | decide) only [go_sem, List.map, m2, ns258, d1, d2, d3, l2, l3, rn258, rl258, rw258, List.nil_append, List.getElem_cons_zero, List.getElem_cons_succ, eq_self, decide_true, List.length_cons, List.length_nil, Nat.reduceAdd, Int.toNat_zero, Int.toNat_one]; rfl)]); (try rw [sub_full (by first | (simp only [List.length_map, List.length_replicate]; done) | simp)]); (try simp only [List.length_map]); exact hK _)
  iterate 3 (apply aops_step (by decide) rfl; · (intro K hK; simp (disch := first | omega | decide) only [go_sem, m2, ns258, d1, d2, d3, l2, l3, rn258, rl258, rw258, List.nil_append, List.getElem_cons_zero, List.getElem_cons_succ, eq_self, decide_true, List.length_cons, List.length_nil, Nat.reduceAdd, Int.toNat_zero, Int.toNat_one]; exact hK _))
  apply aops_step (by decide) rfl
  · intro K hK
    simp (disch := first | omega | decide) only [go_sem, act_indexAddr_s u22 ti5, List.map, m2, ns258, d1, d2, d3, l2, l3, rn258, rl258, rw258, List.nil_append, List.getElem_cons_zero, List.getElem_cons_succ, eq_self, decide_true, List.length_cons, List.length_nil, Nat.reduceAdd, Int.toNat_zero, Int.toNat_one]
    first | rw [mwp_aIndex_own (by simp (disch := first | omega | decide) only [go_sem, m2, ns258, d1, d2, d3, l2, l3, rn258, rl258, rw258, List.nil_append, List.getElem_cons_zero, List.getElem_cons_succ, eq_self, decide_true, List.length_cons, List.length_nil, Nat.reduceAdd, Int.toNat_zero, Int.toNat_one]; rfl) (by first | omega | (simp; omega)) (by first | omega | decide | (simp; omega))] | rw [mwp_aIndex_frz (by simp (disch := first | omega | decide) only [go_sem, m2, ns258, d1, d2, d3, l2, l3, rn258, rl258, rw258, List.nil_append, List.getElem_cons_zero, List.getElem_cons_succ, eq_self, decide_true, List.length_cons, List.length_nil, Nat.reduceAdd, Int.toNat_zero, Int.toNat_one]; rfl) (by first | omega | (simp; omega)) (by first | omega | decide | (simp; omega))] | skip
    exact hK _
  apply aops_step (by decide) rfl
  · intro K hK
    simp (disch := first | omega | decide) only [go_sem, act_load_t ti5, List.map, m2, ns258, d1, d2, d3, l2, l3, rn258, rl258, rw258, List.nil_append, List.getElem_cons_zero, List.getElem_cons_succ, eq_self, decide_true, List.length_cons, List.length_nil, Nat.reduceAdd, Int.toNat_zero, Int.toNat_one]
    first | rw [mwp_load_i1 (by rfl)] | rw [mwp_load_g1 (by first | (rw [hG]; rfl) | rfl | (simp only [mset_G, hG]; rfl)) (by rfl)] | rw [mwp_load_gs (by first | (rw [hG]; rfl) | rfl | (simp only [mset_G, hG]; rfl)) (by simp)] | rw [mwp_load_bs (by simp (disch := first | omega | decide) only [go_sem, m2, ns258, d1, d2, d3, l2, l3, rn258, rl258, rw258, List.nil_append, List.getElem_cons_zero, List.getElem_cons_succ, eq_self, decide_true, List.length_cons, List.length_nil, Nat.reduceAdd, Int.toNat_zero, Int.toNat_one]; rfl) (by simp [setAt])] | rw [mwp_load_b1 (by simp (disch := first | omega | decide) only [go_sem, m2, ns258, d1, d2, d3, l2, l3, rn258, rl258, rw258, List.nil_append, List.getElem_cons_zero, List.getElem_cons_succ, eq_self, decide_true, List.length_cons, List.length_nil, Nat.reduceAdd, Int.toNat_zero, Int.toNat_one]; rfl) (by rfl)] | rw [mwp_aLoad_map (by simp (disch := first | omega | decide) only [go_sem, m2, ns258, d1, d2, d3, l2, l3, rn258, rl258, rw258, List.nil_append, List.getElem_cons_zero, List.getElem_cons_succ, eq_self, decide_true, List.length_cons, List.length_nil, Nat.reduceAdd, Int.toNat_zero, Int.toNat_one]; rfl) (by first | omega | decide | (simp; omega)) (fun _ => rfl)] | rw [mwp_aLoad_frz (by simp (disch := first | omega | decide) only [go_sem, m2, ns258, d1, d2, d3, l2, l3, rn258, rl258, rw258, List.nil_append, List.getElem_cons_zero, List.getElem_cons_succ, eq_self, decide_true, List.length_cons, List.length_nil, Nat.reduceAdd, Int.toNat_zero, Int.toNat_one]; rfl) (by first | omega | decide | (simp; omega)) (fun _ => rfl)] | rw [mwp_aLoad_e1 (by simp (disch := first | omega | decide) only [go_sem, m2, ns258, d1, d2, d3, l2, l3, rn258, rl258, rw258, List.nil_append, List.getElem_cons_zero, List.getElem_cons_succ, eq_self, decide_true, List.length_cons, List.length_nil, Nat.reduceAdd, Int.toNat_zero, Int.toNat_one]; rfl) (by first | rfl | simp) rfl] | rw [mwp_aLoad_f1 (by simp (disch := first | omega | decide) only [go_sem, m2, ns258, d1, d2, d3, l2, l3, rn258, rl258, rw258, List.nil_append, List.getElem_cons_zero, List.getElem_cons_succ, eq_self, decide_true, List.length_cons, List.length_nil, Nat.reduceAdd, Int.toNat_zero, Int.toNat_one]; rfl) (by rfl) rfl] | skip
    exact hK _
  iterate 4 (apply aops_step (by decide) rfl; · (intro K hK; simp (disch := first | omega | decide) only [go_sem, m2, ns258, d1, d2, d3, l2, l3, rn258, rl258, rw258, List.nil_append, List.getElem_cons_zero, List.getElem_cons_succ, eq_self, decide_true, List.length_cons, List.length_nil, Nat.reduceAdd, Int.toNat_zero, Int.toNat_one]; exact hK _))
  apply aops_step (by decide) rfl
  · intro K hK
    simp (disch := first | omega | decide) only [go_sem, act_indexAddr_s u22 ti5, List.map, m2, ns258, d1, d2, d3, l2, l3, rn258, rl258, rw258, List.nil_append, List.getElem_cons_zero, List.getElem_cons_succ, eq_self, decide_true, List.length_cons, List.length_nil, Nat.reduceAdd, Int.toNat_zero, Int.toNat_one]
    first | rw [mwp_aIndex_own (by simp (disch := first | omega | decide) only [go_sem, m2, ns258, d1, d2, d3, l2, l3, rn258, rl258, rw258, List.nil_append, List.getElem_cons_zero, List.getElem_cons_succ, eq_self, decide_true, List.length_cons, List.length_nil, Nat.reduceAdd, Int.toNat_zero, Int.toNat_one]; rfl) (by first | omega | (simp; omega)) (by first | omega | decide | (simp; omega))] | rw [mwp_aIndex_frz (by simp (disch := first | omega | decide) only [go_sem, m2, ns258, d1, d2, d3, l2, l3, rn258, rl258, rw258, List.nil_append, List.getElem_cons_zero, List.getElem_cons_succ, eq_self, decide_true, List.length_cons, List.length_nil, Nat.reduceAdd, Int.toNat_zero, Int.toNat_one]; rfl) (by first | omega | (simp; omega)) (by first | omega | decide | (simp; omega))] | skip
    exact hK _
  apply aops_step (by decide) rfl
  · intro K hK
    simp (disch := first | omega | decide) only [go_sem, act_load_t ti5, List.map, m2, ns258, d1, d2, d3, l2, l3, rn258, rl258, rw258, List.nil_append, List.getElem_cons_zero, List.getElem_cons_succ, eq_self, decide_true, List.length_cons, List.length_nil, Nat.reduceAdd, Int.toNat_zero, Int.toNat_one]
    first | rw [mwp_load_i1 (by rfl)] | rw [mwp_load_g1 (by first | (rw [hG]; rfl) | rfl | (simp only [mset_G, hG]; rfl)) (by rfl)] | rw [mwp_load_gs (by first | (rw [hG]; rfl) | rfl | (simp only [mset_G, hG]; rfl)) (by simp)] | rw [mwp_load_bs (by simp (disch := first | omega | decide) only [go_sem, m2, ns258, d1, d2, d3, l2, l3, rn258, rl258, rw258, List.nil_append, List.getElem_cons_zero, List.getElem_cons_succ, eq_self, decide_true, List.length_cons, List.length_nil, Nat.reduceAdd, Int.toNat_zero, Int.toNat_one]; rfl) (by simp [setAt])] | rw [mwp_load_b1 (by simp (disch := first | omega | decide) only [go_sem, m2, ns258, d1, d2, d3, l2, l3, rn258, rl258, rw258, List.nil_append, List.getElem_cons_zero, List.getElem_cons_succ, eq_self, decide_true, List.length_cons, List.length_nil, Nat.reduceAdd, Int.toNat_zero, Int.toNat_one]; rfl) (by rfl)] | rw [mwp_aLoad_map (by simp (disch := first | omega | decide) only [go_sem, m2, ns258, d1, d2, d3, l2, l3, rn258, rl258, rw258, List.nil_append, List.getElem_cons_zero, List.getElem_cons_succ, eq_self, decide_true, List.length_cons, List.length_nil, Nat.reduceAdd, Int.toNat_zero, Int.toNat_one]; rfl) (by first | omega | decide | (simp; omega)) (fun _ => rfl)] | rw [mwp_aLoad_frz (by simp (disch := first | omega | decide) only [go_sem, m2, ns258, d1, d2, d3, l2, l3, rn258, rl258, rw258, List.nil_append, List.getElem_cons_zero, List.getElem_cons_succ, eq_self, decide_true, List.length_cons, List.length_nil, Nat.reduceAdd, Int.toNat_zero, Int.toNat_one]; rfl) (by first | omega | decide | (simp; omega)) (fun _ => rfl)] | rw [mwp_aLoad_e1 (by simp (disch := first | omega | decide) only [go_sem, m2, ns258, d1, d2, d3, l2, l3, rn258, rl258, rw258, List.nil_append, List.getElem_cons_zero, List.getElem_cons_succ, eq_self, decide_true, List.length_cons, List.length_nil, Nat.reduceAdd, Int.toNat_zero, Int.toNat_one]; rfl) (by first | rfl | simp) rfl] | rw [mwp_aLoad_f1 (by simp (disch := first | omega | decide) only [go_sem, m2, ns258, d1, d2, d3, l2, l3, rn258, rl258, rw258, List.nil_append, List.getElem_cons_zero, List.getElem_cons_succ, eq_self, decide_true, List.length_cons, List.length_nil, Nat.reduceAdd, Int.toNat_zero, Int.toNat_one]; rfl) (by rfl) rfl] | skip
    exact hK _
  iterate 8 (apply aops_step (by decide) rfl; · (intro K hK; simp (disch := first | omega | decide) only [go_sem, bin_neq_p0 u84, bin_neq_pg u84, m2, ns258, d1, d2, d3, l2, l3, rn258, rl258, rw258, List.nil_append, List.getElem_cons_zero, List.getElem_cons_succ, eq_self, decide_true, List.length_cons, List.length_nil, Nat.reduceAdd, Int.toNat_zero, Int.toNat_one]; exact hK _))
  apply aops_step (by decide) rfl
  · intro K hK
    simp (disch := first | omega | decide) only [go_sem, act_call, List.map, m2, ns258, d1, d2, d3, l2, l3, rn258, rl258, rw258, List.nil_append, List.getElem_cons_zero, List.getElem_cons_succ, eq_self, decide_true, List.length_cons, List.length_nil, Nat.reduceAdd, Int.toNat_zero, Int.toNat_one]
    apply mwp_call_g rfl rfl rfl
    · intro Q hQ
      simp (disch := first | omega | decide) only [go_sem, peekL, reifyL_nil, reifyL_cons, reify_v, m2, ns258, d1, d2, d3, l2, l3, rn258, rl258, rw258, List.nil_append, List.getElem_cons_zero, List.getElem_cons_succ, eq_self, decide_true, List.length_cons, List.length_nil, Nat.reduceAdd, Int.toNat_zero, Int.toNat_one]
      first | exact hQ | (((first | rw [peek_own (by simp (disch := first | omega | decide) only [go_sem, peekL, reifyL_nil, reifyL_cons, reify_v, m2, ns258, d1, d2, d3, l2, l3, rn258, rl258, rw258, List.nil_append, List.getElem_cons_zero, List.getElem_cons_succ, eq_self, decide_true, List.length_cons, List.length_nil, Nat.reduceAdd, Int.toNat_zero, Int.toNat_one]; rfl)] | rw [mwp_reify_own (by simp (disch := first | omega | decide) only [go_sem, peekL, reifyL_nil, reifyL_cons, reify_v, m2, ns258, d1, d2, d3, l2, l3, rn258, rl258, rw258, List.nil_append, List.getElem_cons_zero, List.getElem_cons_succ, eq_self, decide_true, List.length_cons, List.length_nil, Nat.reduceAdd, Int.toNat_zero, Int.toNat_one]; rfl)] | rw [peek_frz (by simp (disch := first | omega | decide) only [go_sem, peekL, reifyL_nil, reifyL_cons, reify_v, m2, ns258, d1, d2, d3, l2, l3, rn258, rl258, rw258, List.nil_append, List.getElem_cons_zero, List.getElem_cons_succ, eq_self, decide_true, List.length_cons, List.length_nil, Nat.reduceAdd, Int.toNat_zero, Int.toNat_one]; rfl)] | rw [reify_frz (by simp (disch := first | omega | decide) only [go_sem, peekL, reifyL_nil, reifyL_cons, reify_v, m2, ns258, d1, d2, d3, l2, l3, rn258, rl258, rw258, List.nil_append, List.getElem_cons_zero, List.getElem_cons_succ, eq_self, decide_true, List.length_cons, List.length_nil, Nat.reduceAdd, Int.toNat_zero, Int.toNat_one]; rfl)]); (try rw [sub_full (by first | (simp only [List.length_map, List.length_replicate]; done) | simp)])); exact hQ) | (((first | rw [peek_own (by simp (disch := first | omega | decide) only [go_sem, peekL, reifyL_nil, reifyL_cons, reify_v, m2, ns258, d1, d2, d3, l2, l3, rn258, rl258, rw258, List.nil_append, List.getElem_cons_zero, List.getElem_cons_succ, eq_self, decide_true, List.length_cons, List.length_nil, Nat.reduceAdd, Int.toNat_zero, Int.toNat_one]; rfl)] | rw [mwp_reify_own (by simp (disch := first | omega | decide) only [go_sem, peekL, reifyL_nil, reifyL_cons, reify_v, m2, ns258, d1, d2, d3, l2, l3, rn258, rl258, rw258, List.nil_append, List.getElem_cons_zero, List.getElem_cons_succ, eq_self, decide_true, List.length_cons, List.length_nil, Nat.reduceAdd, Int.toNat_zero, Int.toNat_one]; rfl)] | rw [peek_frz (by simp (disch := first | omega | decide) only [go_sem, peekL, reifyL_nil, reifyL_cons, reify_v, m2, ns258, d1, d2, d3, l2, l3, rn258, rl258, rw258, List.nil_append, List.getElem_cons_zero, List.getElem_cons_succ, eq_self, decide_true, List.length_cons, List.length_nil, Nat.reduceAdd, Int.toNat_zero, Int.toNat_one]; rfl)] | rw [reify_frz (by simp (disch := first | omega | decide) only [go_sem, peekL, reifyL_nil, reifyL_cons, reify_v, m2, ns258, d1, d2, d3, l2, l3, rn258, rl258, rw258, List.nil_append, List.getElem_cons_zero, List.getElem_cons_succ, eq_self, decide_true, List.length_cons, List.length_nil, Nat.reduceAdd, Int.toNat_zero, Int.toNat_one]; rfl)]); (try rw [sub_full (by first | (simp only [List.length_map, List.length_replicate]; done) | simp)])); (try simp (disch := first | omega | decide) only [go_sem, peekL, reifyL_nil, reifyL_cons, reify_v, m2, ns258, d1, d2, d3, l2, l3, rn258, rl258, rw258, List.nil_append, List.getElem_cons_zero, List.getElem_cons_succ, eq_self, decide_true, List.length_cons, List.length_nil, Nat.reduceAdd, Int.toNat_zero, Int.toNat_one]); ((first | rw [peek_own (by simp (disch := first | omega | decide) only [go_sem, peekL, reifyL_nil, reifyL_cons, reify_v, m2, ns258, d1, d2, d3, l2, l3, rn258, rl258, rw258, List.nil_append, List.getElem_cons_zero, List.getElem_cons_succ, eq_self, decide_true, List.length_cons, List.length_nil, Nat.reduceAdd, Int.toNat_zero, Int.toNat_one]; rfl)] | rw [mwp_reify_own (by simp (disch := first | omega | decide) only [go_sem, peekL, reifyL_nil, reifyL_cons, reify_v, m2, ns258, d1, d2, d3, l2, l3, rn258, rl258, rw258, List.nil_append, List.getElem_cons_zero, List.getElem_cons_succ, eq_self, decide_true, List.length_cons, List.length_nil, Nat.reduceAdd, Int.toNat_zero, Int.toNat_one]; rfl)] | rw [peek_frz (by simp (disch := first | omega | decide) only [go_sem, peekL, reifyL_nil, reifyL_cons, reify_v, m2, ns258, d1, d2, d3, l2, l3, rn258, rl258, rw258, List.nil_append, List.getElem_cons_zero, List.getElem_cons_succ, eq_self, decide_true, List.length_cons, List.length_nil, Nat.reduceAdd, Int.toNat_zero, Int.toNat_one]; rfl)] | rw [reify_frz (by simp (disch := first | omega | decide) only [go_sem, peekL, reifyL_nil, reifyL_cons, reify_v, m2, ns258, d1, d2, d3, l2, l3, rn258, rl258, rw258, List.nil_append, List.getElem_cons_zero, List.getElem_cons_succ, eq_self, decide_true, List.length_cons, List.length_nil, Nat.reduceAdd, Int.toNat_zero, Int.toNat_one]; rfl)]); (try rw [sub_full (by first | (simp only [List.length_map, List.length_replicate]; done) | simp)])); exact hQ) | (((first | rw [peek_own (by simp (disch := first | omega | decide) only [go_sem, peekL, reifyL_nil, reifyL_cons, reify_v, m2, ns258, d1, d2, d3, l2, l3, rn258, rl258, rw258, List.nil_append, List.getElem_cons_zero, List.getElem_cons_succ, eq_self, decide_true, List.length_cons, List.length_nil, Nat.reduceAdd, Int.toNat_zero, Int.toNat_one]; rfl)] | rw [mwp_reify_own (by simp (disch := first | omega | decide) only [go_sem, peekL, reifyL_nil, reifyL_cons, reify_v, m2, ns258, d1, d2, d3, l2, l3, rn258, rl258, rw258, List.nil_append, List.getElem_cons_zero, List.getElem_cons_succ, eq_self, decide_true, List.length_cons, List.length_nil, Nat.reduceAdd, Int.toNat_zero, Int.toNat_one]; rfl)] | rw [peek_frz (by simp (disch := first | omega | decide) only [go_sem, peekL, reifyL_nil, reifyL_cons, reify_v, m2, ns258, d1, d2, d3, l2, l3, rn258, rl258, rw258, List.nil_append, List.getElem_cons_zero, List.getElem_cons_succ, eq_self, decide_true, List.length_cons, List.length_nil, Nat.reduceAdd, Int.toNat_zero, Int.toNat_one]; rfl)] | rw [reify_frz (by simp (disch := first | omega | decide) only [go_sem, peekL, reifyL_nil, reifyL_cons, reify_v, m2, ns258, d1, d2, d3, l2, l3, rn258, rl258, rw258, List.nil_append, List.getElem_cons_zero, List.getElem_cons_succ, eq_self, decide_true, List.length_cons, List.length_nil, Nat.reduceAdd, Int.toNat_zero, Int.toNat_one]; rfl)]); (try rw [sub_full (by first | (simp only [List.length_map, List.length_replicate]; done) | simp)])); simp (disch := first | omega | decide) only [go_sem, peekL, reifyL_nil, reifyL_cons, reify_v, m2, ns258, d1, d2, d3, l2, l3, rn258, rl258, rw258, List.nil_append, List.getElem_cons_zero, List.getElem_cons_succ, eq_self, decide_true, List.length_cons, List.length_nil, Nat.reduceAdd, Int.toNat_zero, Int.toNat_one]; exact hQ)
    · first | exact hG | rfl | (simp only [mset_G, hG]; rfl)
    · exact good_NumR false [1#8, 2#8] false (by simp) (by simp) 2
    · simp (disch := first | omega | decide) only [go_sem, m2, ns258, d1, d2, d3, l2, l3, rn258, rl258, rw258, List.nil_append, List.getElem_cons_zero, List.getElem_cons_succ, eq_self, decide_true, List.length_cons, List.length_nil, Nat.reduceAdd, Int.toNat_zero, Int.toNat_one]
      exact hK _
  iterate 4 (apply aops_step (by decide) rfl; · (intro K hK; simp (disch := first | omega | decide) only [go_sem, m2, ns258, d1, d2, d3, l2, l3, rn258, rl258, rw258, List.nil_append, List.getElem_cons_zero, List.getElem_cons_succ, eq_self, decide_true, List.length_cons, List.length_nil, Nat.reduceAdd, Int.toNat_zero, Int.toNat_one]; exact hK _))
  apply aops_step (by decide) rfl
  · intro K hK
    simp (disch := first | omega | decide) only [go_sem, act_call, List.map, m2, ns258, d1, d2, d3, l2, l3, rn258, rl258, rw258, List.nil_append, List.getElem_cons_zero, List.getElem_cons_succ, eq_self, decide_true, List.length_cons, List.length_nil, Nat.reduceAdd, Int.toNat_zero, Int.toNat_one]
    apply mwp_call_g rfl rfl rfl
    · intro Q hQ
      simp (disch := first | omega | decide) only [go_sem, peekL, reifyL_nil, reifyL_cons, reify_v, m2, ns258, d1, d2, d3, l2, l3, rn258, rl258, rw258, List.nil_append, List.getElem_cons_zero, List.getElem_cons_succ, eq_self, decide_true, List.length_cons, List.length_nil, Nat.reduceAdd, Int.toNat_zero, Int.toNat_one]
      first | exact hQ | (((first | rw [peek_own (by simp (disch := first | omega | decide) only [go_sem, peekL, reifyL_nil, reifyL_cons, reify_v, m2, ns258, d1, d2, d3, l2, l3, rn258, rl258, rw258, List.nil_append, List.getElem_cons_zero, List.getElem_cons_succ, eq_self, decide_true, List.length_cons, List.length_nil, Nat.reduceAdd, Int.toNat_zero, Int.toNat_one]; rfl)] | rw [mwp_reify_own (by simp (disch := first | omega | decide) only [go_sem, peekL, reifyL_nil, reifyL_cons, reify_v, m2, ns258, d1, d2, d3, l2, l3, rn258, rl258, rw258, List.nil_append, List.getElem_cons_zero, List.getElem_cons_succ, eq_self, decide_true, List.length_cons, List.length_nil, Nat.reduceAdd, Int.toNat_zero, Int.toNat_one]; rfl)] | rw [peek_frz (by simp (disch := first | omega | decide) only [go_sem, peekL, reifyL_nil, reifyL_cons, reify_v, m2, ns258, d1, d2, d3, l2, l3, rn258, rl258, rw258, List.nil_append, List.getElem_cons_zero, List.getElem_cons_succ, eq_self, decide_true, List.length_cons, List.length_nil, Nat.reduceAdd, Int.toNat_zero, Int.toNat_one]; rfl)] | rw [reify_frz (by simp (disch := first | omega | decide) only [go_sem, peekL, reifyL_nil, reifyL_cons, reify_v, m2, ns258, d1, d2, d3, l2, l3, rn258, rl258, rw258, List.nil_append, List.getElem_cons_zero, List.getElem_cons_succ, eq_self, decide_true, List.length_cons, List.length_nil, Nat.reduceAdd, Int.toNat_zero, Int.toNat_one]; rfl)]); (try rw [sub_full (by first | (simp only [List.length_map, List.length_replicate]; done) | simp)])); exact hQ) | (((first | rw [peek_own (by simp (disch := first | omega | decide) only [go_sem, peekL, reifyL_nil, reifyL_cons, reify_v, m2, ns258, d1, d2, d3, l2, l3, rn258, rl258, rw258, List.nil_append, List.getElem_cons_zero, List.getElem_cons_succ, eq_self, decide_true, List.length_cons, List.length_nil, Nat.reduceAdd, Int.toNat_zero, Int.toNat_one]; rfl)] | rw [mwp_reify_own (by simp (disch := first | omega | decide) only [go_sem, peekL, reifyL_nil, reifyL_cons, reify_v, m2, ns258, d1, d2, d3, l2, l3, rn258, rl258, rw258, List.nil_append, List.getElem_cons_zero, List.getElem_cons_succ, eq_self, decide_true, List.length_cons, List.length_nil, Nat.reduceAdd, Int.toNat_zero, Int.toNat_one]; rfl)] | rw [peek_frz (by simp (disch := first | omega | decide) only [go_sem, peekL, reifyL_nil, reifyL_cons, reify_v, m2, ns258, d1, d2, d3, l2, l3, rn258, rl258, rw258, List.nil_append, List.getElem_cons_zero, List.getElem_cons_succ, eq_self, decide_true, List.length_cons, List.length_nil, Nat.reduceAdd, Int.toNat_zero, Int.toNat_one]; rfl)] | rw [reify_frz (by simp (disch := first | omega | decide) only [go_sem, peekL, reifyL_nil, reifyL_cons, reify_v, m2, ns258, d1, d2, d3, l2, l3, rn258, rl258, rw258, List.nil_append, List.getElem_cons_zero, List.getElem_cons_succ, eq_self, decide_true, List.length_cons, List.length_nil, Nat.reduceAdd, Int.toNat_zero, Int.toNat_one]; rfl)]); (try rw [sub_full (by first | (simp only [List.length_map, List.length_replicate]; done) | simp)])); (try simp (disch := first | omega | decide) only [go_sem, peekL, reifyL_nil, reifyL_cons, reify_v, m2, ns258, d1, d2, d3, l2, l3, rn258, rl258, rw258, List.nil_append, List.getElem_cons_zero, List.getElem_cons_succ, eq_self, decide_true, List.length_cons, List.length_nil, Nat.reduceAdd, Int.toNat_zero, Int.toNat_one]); ((first | rw [peek_own (by simp (disch := first | omega | decide) only [go_sem, peekL, reifyL_nil, reifyL_cons, reify_v, m2, ns258, d1, d2, d3, l2, l3, rn258, rl258, rw258, List.nil_append, List.getElem_cons_zero, List.getElem_cons_succ, eq_self, decide_true, List.length_cons, List.length_nil, Nat.reduceAdd, Int.toNat_zero, Int.toNat_one]; rfl)] | rw [mwp_reify_own (by simp (disch := first | omega | decide) only [go_sem, peekL, reifyL_nil, reifyL_cons, reify_v, m2, ns258, d1, d2, d3, l2, l3, rn258, rl258, rw258, List.nil_append, List.getElem_cons_zero, List.getElem_cons_succ, eq_self, decide_true, List.length_cons, List.length_nil, Nat.reduceAdd, Int.toNat_zero, Int.toNat_one]; rfl)] | rw [peek_frz (by simp (disch := first | omega | decide) only [go_sem, peekL, reifyL_nil, reifyL_cons, reify_v, m2, ns258, d1, d2, d3, l2, l3, rn258, rl258, rw258, List.nil_append, List.getElem_cons_zero, List.getElem_cons_succ, eq_self, decide_true, List.length_cons, List.length_nil, Nat.reduceAdd, Int.toNat_zero, Int.toNat_one]; rfl)] | rw [reify_frz (by simp (disch := first | omega | decide) only [go_sem, peekL, reifyL_nil, reifyL_cons, reify_v, m2, ns258, d1, d2, d3, l2, l3, rn258, rl258, rw258, List.nil_append, List.getElem_cons_zero, List.getElem_cons_succ, eq_self, decide_true, List.length_cons, List.length_nil, Nat.reduceAdd, Int.toNat_zero, Int.toNat_one]; rfl)]); (try rw [sub_full (by first | (simp only [List.length_map, List.length_replicate]; done) | simp)])); exact hQ) | (((first | rw [peek_own (by simp (disch := first | omega | decide) only [go_sem, peekL, reifyL_nil, reifyL_cons, reify_v, m2, ns258, d1, d2, d3, l2, l3, rn258, rl258, rw258, List.nil_append, List.getElem_cons_zero, List.getElem_cons_succ, eq_self, decide_true, List.length_cons, List.length_nil, Nat.reduceAdd, Int.toNat_zero, Int.toNat_one]; rfl)] | rw [mwp_reify_own (by simp (disch := first | omega | decide) only [go_sem, peekL, reifyL_nil, reifyL_cons, reify_v, m2, ns258, d1, d2, d3, l2, l3, rn258, rl258, rw258, List.nil_append, List.getElem_cons_zero, List.getElem_cons_succ, eq_self, decide_true, List.length_cons, List.length_nil, Nat.reduceAdd, Int.toNat_zero, Int.toNat_one]; rfl)] | rw [peek_frz (by simp (disch := first | omega | decide) only [go_sem, peekL, reifyL_nil, reifyL_cons, reify_v, m2, ns258, d1, d2, d3, l2, l3, rn258, rl258, rw258, List.nil_append, List.getElem_cons_zero, List.getElem_cons_succ, eq_self, decide_true, List.length_cons, List.length_nil, Nat.reduceAdd, Int.toNat_zero, Int.toNat_one]; rfl)] | rw [reify_frz (by simp (disch := first | omega | decide) only [go_sem, peekL, reifyL_nil, reifyL_cons, reify_v, m2, ns258, d1, d2, d3, l2, l3, rn258, rl258, rw258, List.nil_append, List.getElem_cons_zero, List.getElem_cons_succ, eq_self, decide_true, List.length_cons, List.length_nil, Nat.reduceAdd, Int.toNat_zero, Int.toNat_one]; rfl)]); (try rw [sub_full (by first | (simp only [List.length_map, List.length_replicate]; done) | simp)])); simp (disch := first | omega | decide) only [go_sem, peekL, reifyL_nil, reifyL_cons, reify_v, m2, ns258, d1, d2, d3, l2, l3, rn258, rl258, rw258, List.nil_append, List.getElem_cons_zero, List.getElem_cons_succ, eq_self, decide_true, List.length_cons, List.length_nil, Nat.reduceAdd, Int.toNat_zero, Int.toNat_one]; exact hQ)
    · first | exact hG | rfl | (simp only [mset_G, hG]; rfl)
    · exact good_Done false [] false (by simp) (by simp)
    · simp (disch := first | omega | decide) only [go_sem, m2, ns258, d1, d2, d3, l2, l3, rn258, rl258, rw258, List.nil_append, List.getElem_cons_zero, List.getElem_cons_succ, eq_self, decide_true, List.length_cons, List.length_nil, Nat.reduceAdd, Int.toNat_zero, Int.toNat_one]
      exact hK _
  iterate 2 (apply aops_step (by decide) rfl; · (intro K hK; simp (disch := first | omega | decide) only [go_sem, m2, ns258, d1, d2, d3, l2, l3, rn258, rl258, rw258, List.nil_append, List.getElem_cons_zero, List.getElem_cons_succ, eq_self, decide_true, List.length_cons, List.length_nil, Nat.reduceAdd, Int.toNat_zero, Int.toNat_one]; exact hK _))
  refine aops_nil ?_
  refine AW.ret ?_
  refine ⟨.inr rfl, ?_⟩
  apply Exists.intro
  refine leaves_tmp1 0 rfl ?_ (by first | rfl | exact hG)
  simp (disch := first | omega | decide) only [go_sem, m2, ns258, d1, d2, d3, l2, l3, rn258, rl258, rw258, List.nil_append, List.getElem_cons_zero, List.getElem_cons_succ, eq_self, decide_true, List.length_cons, List.length_nil, Nat.reduceAdd, Int.toNat_zero, Int.toNat_one]
  all_goals rfl

end Go.Vai.O
