import Derived.Test.YtphmphdckkhblaaPlotW
namespace Go.Vai.V
open Go.Proofs Go.Vai
set_option linter.unusedSimpArgs false
set_option linter.unusedVariables false
theorem el44 : elOf Try.prog 44 = some 3 := by kernel_rfl
theorem u44 : Try.prog.underlying 44 = some (.slice 3) := by kernel_rfl

theorem parts (n gen : Int) (h : 6 ≤ n ∧ n ≤ 1024) (hg : 0 ≤ gen) : ∃ a c S N : Nat, (a = 0 ∧ c = S ∨ a = S ∧ c = 0) ∧ 0 < S ∧ 4 * S ≤ N ∧ n = (N : Int) ∧
    slotF (pS n) (pF n) (pL n) gen = (a : Int) ∧ slotT (pS n) (pF n) (pL n) gen = (a : Int) + (S : Int) ∧
    slotF (pS n) (pF n) (pL n) (gen + 1) = (c : Int) ∧ slotT (pS n) (pF n) (pL n) (gen + 1) = (c : Int) + (S : Int) ∧
    ∀ i : Nat, i < N → atS (pS n) (pF n) (pL n) (i : Int) = if 2 * S + i < N then ((2 * S + i : Nat) : Int) else -1 := by
  have e : ¬ (n < 6 ∨ n > 1024) := by omega
  have hF : pF n = 2 * pS n := by rw [pF, pS, if_neg e, if_neg e]
  have hL : pL n = n - 2 * pS n := by rw [pL, pS, if_neg e, if_neg e]
  have hS : 0 < pS n ∧ 4 * pS n ≤ n := by rw [pS, if_neg e]; omega
  have hm : mayP (pS n) (pF n) (pL n) = true := by
    rw [mayP, if_neg (by omega), hF, hL, show 2 * pS n + (n - 2 * pS n) = n by omega, hF, hL]
    simp [eOf, e]
  have g2 : gen % 2 = 0 ∨ gen % 2 = 1 := by omega
  refine ⟨(gen % 2 * pS n).toNat, ((gen + 1) % 2 * pS n).toNat, (pS n).toNat, n.toNat, ?_, by omega, by omega, by omega, ?_, ?_, ?_, ?_, ?_⟩
  · rcases g2 with h2 | h2
    · rw [h2, show (gen + 1) % 2 = 1 by omega]; left; simp
    · rw [h2, show (gen + 1) % 2 = 0 by omega]; right; simp
  · rw [slotF, if_neg (by simp [hm]; omega)]
    rcases g2 with h2 | h2 <;> rw [h2] <;> omega
  · rw [slotT, if_neg (by simp [hm]; omega)]
    rcases g2 with h2 | h2 <;> rw [h2] <;> omega
  · rw [slotF, if_neg (by simp [hm]; omega)]
    have g3 : (gen + 1) % 2 = 0 ∨ (gen + 1) % 2 = 1 := by omega
    rcases g3 with h2 | h2 <;> rw [h2] <;> omega
  · rw [slotT, if_neg (by simp [hm]; omega)]
    have g3 : (gen + 1) % 2 = 0 ∨ (gen + 1) % 2 = 1 := by omega
    rcases g3 with h2 | h2 <;> rw [h2] <;> omega
  · intro i hi
    rw [atS, hF, hL]
    rw [hF, hL] at hm
    by_cases h2 : 2 * (pS n).toNat + i < n.toNat
    · rw [if_neg (by simp [hm]; omega), if_pos h2]; omega
    · rw [if_pos (by right; right; omega), if_neg h2]
def cnt (p : Nat → Bool) (j : Nat) : AV := i64 (if p j then 1 else 0)
theorem add_ite {P : Program} {t : TypeId} {p : Prop} [Decidable p] : aBin P .add t (i64 (if p then 1 else 0)) (i64 1) = some (i64 ((if p then 1 else 0) + 1)) := by
  split <;> exact bin_add (by omega)
theorem cnt_same {p q : Nat → Bool} {N : Nat} (h : ∀ j, j < N → p j = q j) : (List.range N).map (cnt p) = (List.range N).map (cnt q) := range_congr fun j hj => by simp only [cnt, h j hj]
theorem cnt_up {p q : Nat → Bool} {N i : Nat} (hp : p i = false) (hq : ∀ j, j < N → q j = (p j || decide (j = i))) : ((List.range N).map (cnt p)).set i (i64 ((if p i = true then 1 else 0) + 1)) = (List.range N).map (cnt q) := by
  rw [set_range]
  refine range_congr fun j hj => ?_
  by_cases h : j = i
  · subst h; simp [cnt, hq j hj, hp]
  · simp [cnt, hq j hj, h]
theorem cnt_none {p : Nat → Bool} {N : Nat} {v : AV} (hv : v = i64 0) (h : ∀ j, j < N → p j = false) : List.replicate N v = (List.range N).map (cnt p) := by
  rw [replicate_range]
  exact range_congr fun j hj => by simp [cnt, h j hj, hv]
theorem cells_cnt (p : Nat → Bool) (j : Nat) : cellsOf (cnt p j) = [cnt p j] := rfl
set_option maxHeartbeats 4000000 in
set_option maxRecDepth 100000 in
theorem good_PlotParts (n gen : Int) : Good Try.prog 7 [(i64 n, false), (i64 gen, false)] [] [(.b true, false)] [] := by
  refine good_of_body2 140 Try.func7 rfl rfl rfl (by simp) ?_
  intro s m ha hr hv hG
  have f0 : s 0 = .v (i64 n) := ha 0 _ rfl
  have f1 : s 1 = .v (i64 gen) := ha 1 _ rfl
  clear ha
  refine AW.seq ?_
  refine AW.region (cfg := cfg) ?_
  iterate 1 (apply aops_step (by decide) rfl; · (intro K hK; simp (disch := first | omega | decide) only [go_sem, f0, f1, cnt, List.getElem_range, add_ite]; exact hK _))
  refine aops_nil ?_
  refine AW.seq ?_
  refine AW.region (cfg := cfg) ?_
  iterate 1 (apply aops_step (by decide) rfl; · (intro K hK; simp (disch := first | omega | decide) only [go_sem, f0, f1, cnt, List.getElem_range, add_ite]; exact hK _))
  apply aops_step (by decide) rfl
  · intro K hK
    simp (disch := first | omega | decide) only [go_sem, f0, f1, act_call, List.map, cnt, List.getElem_range, add_ite]
    apply mwp_call_r rfl rfl rfl
    · intro Q hQ
      simp (disch := first | omega | decide) only [go_sem, f0, f1, peekL, cnt, List.getElem_range, add_ite]
      first | exact hQ | (rw [peek_own (by simp (disch := first | omega | decide) only [go_sem, f0, f1, peekL, cnt, List.getElem_range, add_ite]; rfl)]; exact hQ) | (rw [peek_own (by simp (disch := first | omega | decide) only [go_sem, f0, f1, peekL, cnt, List.getElem_range, add_ite]; rfl)]; simp (disch := first | omega | decide) only [go_sem, f0, f1, peekL, cnt, List.getElem_range, add_ite]; rw [peek_own (by simp (disch := first | omega | decide) only [go_sem, f0, f1, peekL, cnt, List.getElem_range, add_ite]; rfl)]; exact hQ) | (rw [peek_own (by simp (disch := first | omega | decide) only [go_sem, f0, f1, peekL, cnt, List.getElem_range, add_ite]; rfl)]; simp (disch := first | omega | decide) only [go_sem, f0, f1, peekL, cnt, List.getElem_range, add_ite]; exact hQ)
    · exact good_Make _
    · simp [-List.map_take, -List.map_drop, noPtrL, noPtr, noPtrL_bsl, noPtrL_map, sub]
    · simp (disch := first | omega | decide) only [go_sem, f0, f1, cnt, List.getElem_range, add_ite]
      exact hK _
  iterate 3 (apply aops_step (by decide) rfl; · (intro K hK; simp (disch := first | omega | decide) only [go_sem, f0, f1, cnt, List.getElem_range, add_ite]; exact hK _))
  apply aops_step (by decide) rfl
  · intro K hK
    simp (disch := first | omega | decide) only [go_sem, f0, f1, act_alloc_t ti33, List.map, cnt, List.getElem_range, add_ite]
    exact hK _
  apply aops_step0 rfl
  · intro K hK
    simp (disch := first | omega | decide) only [go_sem, f0, f1, act_store_t ti33, List.map, cnt, List.getElem_range, add_ite]
    first | rw [mwp_store_c (by simp (disch := first | omega | decide) only [go_sem, f0, f1, cnt, List.getElem_range, add_ite]; rfl) (by rfl) (by rfl) (by rfl) (by simp)] | rw [mwp_aStore_map (by simp (disch := first | omega | decide) only [go_sem, f0, f1, cnt, List.getElem_range, add_ite]; rfl) (by first | omega | (simp; omega)) (fun _ => rfl) rfl rfl (fun _ => rfl)] | skip
    try simp only [setAt, cellsL, cellsOf_agg, cellsOf_base, List.map_cons, List.map_nil, List.set_cons_zero, List.set_cons_succ, Nat.reduceAdd, Nat.zero_add]
    exact hK _
  iterate 1 (apply aops_step (by decide) rfl; · (intro K hK; simp (disch := first | omega | decide) only [go_sem, f0, f1, cnt, List.getElem_range, add_ite]; exact hK _))
  refine aops_nil ?_
  refine AW.seq ?_
  refine AW.seq ?_
  refine AW.region (cfg := cfg) ?_
  iterate 3 (apply aops_step (by decide) rfl; · (intro K hK; simp (disch := first | omega | decide) only [go_sem, f0, f1, cnt, List.getElem_range, add_ite]; exact hK _))
  apply aops_merge' (by decide) (by first | exact want_of (d := 24) rfl (by simp (disch := first | omega | decide) only [go_sem, f0, f1, opn_cond, cnt, List.getElem_range, add_ite]; rfl) | exact want_of_cond (d := 24) rfl (by simp (disch := first | omega | decide) only [go_sem, f0, f1, opn_cond, cnt, List.getElem_range, add_ite]; rfl))
  · intro hc K hK
    have hc2 := hc
    simp only [beq_iff_eq, decide_eq_true_eq, decide_eq_false_iff_not, Bool.or_eq_true, Bool.and_eq_true, Bool.or_eq_false_iff, Bool.and_eq_false_iff] at hc2
    simp (disch := first | omega | decide) only [go_sem, f0, f1, opn_cond, hc, if_true, cnt, List.getElem_range, add_ite]
    exact hK _
  apply aops_merge' (by decide) (by first | exact want_of (d := 24) rfl (by simp (disch := first | omega | decide) only [go_sem, f0, f1, opn_cond, cnt, List.getElem_range, add_ite]; rfl) | exact want_of_cond (d := 24) rfl (by simp (disch := first | omega | decide) only [go_sem, f0, f1, opn_cond, cnt, List.getElem_range, add_ite]; rfl))
  · intro hc K hK
    have hc2 := hc
    simp only [beq_iff_eq, decide_eq_true_eq, decide_eq_false_iff_not, Bool.or_eq_true, Bool.and_eq_true, Bool.or_eq_false_iff, Bool.and_eq_false_iff] at hc2
    simp (disch := first | omega | decide) only [go_sem, f0, f1, opn_cond, hc, if_true, cnt, List.getElem_range, add_ite]
    exact hK _
  iterate 2 (apply aops_step (by decide) rfl; · (intro K hK; simp (disch := first | omega | decide) only [go_sem, f0, f1, cnt, List.getElem_range, add_ite]; exact hK _))
  apply aops_merge' (by decide) (by first | exact want_of (d := 28) rfl (by simp (disch := first | omega | decide) only [go_sem, f0, f1, opn_cond, cnt, List.getElem_range, add_ite]; rfl) | exact want_of_cond (d := 28) rfl (by simp (disch := first | omega | decide) only [go_sem, f0, f1, opn_cond, cnt, List.getElem_range, add_ite]; rfl))
  · intro hc K hK
    have hc2 := hc
    simp only [beq_iff_eq, decide_eq_true_eq, decide_eq_false_iff_not, Bool.or_eq_true, Bool.and_eq_true, Bool.or_eq_false_iff, Bool.and_eq_false_iff] at hc2
    simp (disch := first | omega | decide) only [go_sem, f0, f1, opn_cond, hc, if_true, cnt, List.getElem_range, add_ite]
    exact hK _
  apply aops_merge' (by decide) (by first | exact want_of (d := 28) rfl (by simp (disch := first | omega | decide) only [go_sem, f0, f1, opn_cond, cnt, List.getElem_range, add_ite]; rfl) | exact want_of_cond (d := 28) rfl (by simp (disch := first | omega | decide) only [go_sem, f0, f1, opn_cond, cnt, List.getElem_range, add_ite]; rfl))
  · intro hc K hK
    have hc2 := hc
    simp only [beq_iff_eq, decide_eq_true_eq, decide_eq_false_iff_not, Bool.or_eq_true, Bool.and_eq_true, Bool.or_eq_false_iff, Bool.and_eq_false_iff] at hc2
    simp (disch := first | omega | decide) only [go_sem, f0, f1, opn_cond, hc, if_true, cnt, List.getElem_range, add_ite]
    exact hK _
  iterate 2 (apply aops_step (by decide) rfl; · (intro K hK; simp (disch := first | omega | decide) only [go_sem, f0, f1, cnt, List.getElem_range, add_ite]; exact hK _))
  apply aops_merge' (by decide) (by first | exact want_of (d := 32) rfl (by simp (disch := first | omega | decide) only [go_sem, f0, f1, opn_cond, cnt, List.getElem_range, add_ite]; rfl) | exact want_of_cond (d := 32) rfl (by simp (disch := first | omega | decide) only [go_sem, f0, f1, opn_cond, cnt, List.getElem_range, add_ite]; rfl))
  · intro hc K hK
    have hc2 := hc
    simp only [beq_iff_eq, decide_eq_true_eq, decide_eq_false_iff_not, Bool.or_eq_true, Bool.and_eq_true, Bool.or_eq_false_iff, Bool.and_eq_false_iff] at hc2
    simp (disch := first | omega | decide) only [go_sem, f0, f1, opn_cond, hc, if_true, cnt, List.getElem_range, add_ite]
    exact hK _
  apply aops_merge' (by decide) (by first | exact want_of (d := 32) rfl (by simp (disch := first | omega | decide) only [go_sem, f0, f1, opn_cond, cnt, List.getElem_range, add_ite]; rfl) | exact want_of_cond (d := 32) rfl (by simp (disch := first | omega | decide) only [go_sem, f0, f1, opn_cond, cnt, List.getElem_range, add_ite]; rfl))
  · intro hc K hK
    have hc2 := hc
    simp only [beq_iff_eq, decide_eq_true_eq, decide_eq_false_iff_not, Bool.or_eq_true, Bool.and_eq_true, Bool.or_eq_false_iff, Bool.and_eq_false_iff] at hc2
    simp (disch := first | omega | decide) only [go_sem, f0, f1, opn_cond, hc, if_true, cnt, List.getElem_range, add_ite]
    exact hK _
  iterate 1 (apply aops_step (by decide) rfl; · (intro K hK; simp (disch := first | omega | decide) only [go_sem, f0, f1, cnt, List.getElem_range, add_ite]; exact hK _))
  refine aops_nil ?_
  apply AW.cond
  · simp (disch := first | omega | decide) only [go_sem, f0, f1, cnt, List.getElem_range, add_ite]; rfl
  case ht =>
    intro hb
    try simp only [Bool.or_eq_true, Bool.and_eq_true, Bool.or_eq_false_iff, Bool.and_eq_false_iff, decide_eq_true_eq, decide_eq_false_iff_not] at hb
    refine AW.seq ?_
    refine AW.region (cfg := cfg) ?_
    apply aops_step (by decide) rfl
    · intro K hK
      simp (disch := first | omega | decide) only [go_sem, f0, f1, act_call, List.map, cnt, List.getElem_range, add_ite]
      apply mwp_call_s rfl rfl rfl
      · intro Q hQ
        simp (disch := first | omega | decide) only [go_sem, f0, f1, peekL, cnt, List.getElem_range, add_ite]
        first | exact hQ | (rw [peek_own (by simp (disch := first | omega | decide) only [go_sem, f0, f1, peekL, cnt, List.getElem_range, add_ite]; rfl)]; exact hQ) | (rw [peek_own (by simp (disch := first | omega | decide) only [go_sem, f0, f1, peekL, cnt, List.getElem_range, add_ite]; rfl)]; simp (disch := first | omega | decide) only [go_sem, f0, f1, peekL, cnt, List.getElem_range, add_ite]; rw [peek_own (by simp (disch := first | omega | decide) only [go_sem, f0, f1, peekL, cnt, List.getElem_range, add_ite]; rfl)]; exact hQ) | (rw [peek_own (by simp (disch := first | omega | decide) only [go_sem, f0, f1, peekL, cnt, List.getElem_range, add_ite]; rfl)]; simp (disch := first | omega | decide) only [go_sem, f0, f1, peekL, cnt, List.getElem_range, add_ite]; exact hQ)
      · exact good_awake
      · simp [-List.map_take, -List.map_drop, noPtrL, noPtr, noPtrL_bsl, noPtrL_map, sub]
      · rfl
      · exact hK _
    iterate 1 (apply aops_step (by decide) rfl; · (intro K hK; simp (disch := first | omega | decide) only [go_sem, f0, f1, cnt, List.getElem_range, add_ite]; exact hK _))
    refine aops_nil ?_
    refine AW.ret ?_
    refine ⟨.inr rfl, ?_⟩
    refine leaves_tmp1 4 rfl ?_ (by first | rfl | exact hG)
    simp (disch := first | omega | decide) only [go_sem, f0, f1, cnt, List.getElem_range, add_ite]
    all_goals first | done | (exfalso; omega) | (exfalso; simp at hb; omega) | trace_state
  case hf =>
    intro hb
    try simp only [Bool.or_eq_true, Bool.and_eq_true, Bool.or_eq_false_iff, Bool.and_eq_false_iff, decide_eq_true_eq, decide_eq_false_iff_not] at hb
    refine AW.skip ?_
    refine AW.seq ?_
    have hgg : (6 ≤ n ∧ n ≤ 1024) ∧ 0 ≤ gen ∧ gen < 1099511627776 := by omega
    obtain ⟨a, c, S, N, h1, h2, h3, rfl, p1, p2, p3, p4, p5⟩ := parts n gen hgg.1 hgg.2.1
    have p0 := e_ok (n := (N : Int)) (by omega)
    refine AW.region (cfg := cfg) ?_
    apply aops_step (by decide) rfl
    · intro K hK
      simp (disch := first | omega | decide) only [go_sem, f0, f1, p0, p1, p2, p3, p4, ne_eq, not_true_eq_false, decide_false, Bool.false_or, act_load_t ti33, List.map, cnt, List.getElem_range, add_ite]
      first | rw [mwp_load_bs (by simp (disch := first | omega | decide) only [go_sem, f0, f1, p0, p1, p2, p3, p4, ne_eq, not_true_eq_false, decide_false, Bool.false_or, cnt, List.getElem_range, add_ite]; rfl) (by simp)] | rw [mwp_load_b1 (by simp (disch := first | omega | decide) only [go_sem, f0, f1, p0, p1, p2, p3, p4, ne_eq, not_true_eq_false, decide_false, Bool.false_or, cnt, List.getElem_range, add_ite]; rfl) (by rfl)] | rw [mwp_aLoad_map (by simp (disch := first | omega | decide) only [go_sem, f0, f1, p0, p1, p2, p3, p4, ne_eq, not_true_eq_false, decide_false, Bool.false_or, cnt, List.getElem_range, add_ite]; rfl) (by first | omega | (simp; omega)) (fun _ => rfl)] | rw [mwp_aLoad_e1 (by simp (disch := first | omega | decide) only [go_sem, f0, f1, p0, p1, p2, p3, p4, ne_eq, not_true_eq_false, decide_false, Bool.false_or, cnt, List.getElem_range, add_ite]; rfl) (by simp) rfl] | skip
      exact hK _
    iterate 1 (apply aops_step (by decide) rfl; · (intro K hK; simp (disch := first | omega | decide) only [go_sem, f0, f1, p0, p1, p2, p3, p4, ne_eq, not_true_eq_false, decide_false, Bool.false_or, cnt, List.getElem_range, add_ite]; exact hK _))
    apply aops_step (by decide) rfl
    · intro K hK
      simp (disch := first | omega | decide) only [go_sem, f0, f1, p0, p1, p2, p3, p4, ne_eq, not_true_eq_false, decide_false, Bool.false_or, act_call, List.map, cnt, List.getElem_range, add_ite]
      apply mwp_call_r rfl rfl rfl
      · intro Q hQ
        simp (disch := first | omega | decide) only [go_sem, f0, f1, p0, p1, p2, p3, p4, ne_eq, not_true_eq_false, decide_false, Bool.false_or, peekL, cnt, List.getElem_range, add_ite]
        first | exact hQ | (rw [peek_own (by simp (disch := first | omega | decide) only [go_sem, f0, f1, p0, p1, p2, p3, p4, ne_eq, not_true_eq_false, decide_false, Bool.false_or, peekL, cnt, List.getElem_range, add_ite]; rfl)]; exact hQ) | (rw [peek_own (by simp (disch := first | omega | decide) only [go_sem, f0, f1, p0, p1, p2, p3, p4, ne_eq, not_true_eq_false, decide_false, Bool.false_or, peekL, cnt, List.getElem_range, add_ite]; rfl)]; simp (disch := first | omega | decide) only [go_sem, f0, f1, p0, p1, p2, p3, p4, ne_eq, not_true_eq_false, decide_false, Bool.false_or, peekL, cnt, List.getElem_range, add_ite]; rw [peek_own (by simp (disch := first | omega | decide) only [go_sem, f0, f1, p0, p1, p2, p3, p4, ne_eq, not_true_eq_false, decide_false, Bool.false_or, peekL, cnt, List.getElem_range, add_ite]; rfl)]; exact hQ) | (rw [peek_own (by simp (disch := first | omega | decide) only [go_sem, f0, f1, p0, p1, p2, p3, p4, ne_eq, not_true_eq_false, decide_false, Bool.false_or, peekL, cnt, List.getElem_range, add_ite]; rfl)]; simp (disch := first | omega | decide) only [go_sem, f0, f1, p0, p1, p2, p3, p4, ne_eq, not_true_eq_false, decide_false, Bool.false_or, peekL, cnt, List.getElem_range, add_ite]; exact hQ)
      · exact good_Slot _ _ _ _
      · simp [-List.map_take, -List.map_drop, noPtrL, noPtr, noPtrL_bsl, noPtrL_map, sub]
      · simp (disch := first | omega | decide) only [go_sem, f0, f1, p0, p1, p2, p3, p4, ne_eq, not_true_eq_false, decide_false, Bool.false_or, cnt, List.getElem_range, add_ite]
        exact hK _
    iterate 5 (apply aops_step (by decide) rfl; · (intro K hK; simp (disch := first | omega | decide) only [go_sem, f0, f1, p0, p1, p2, p3, p4, ne_eq, not_true_eq_false, decide_false, Bool.false_or, cnt, List.getElem_range, add_ite]; exact hK _))
    refine aops_nil ?_
    refine AW.seq ?_
    refine AW.region (cfg := cfg) ?_
    apply aops_step (by decide) rfl
    · intro K hK
      simp (disch := first | omega | decide) only [go_sem, f0, f1, p0, p1, p2, p3, p4, ne_eq, not_true_eq_false, decide_false, Bool.false_or, act_load_t ti33, List.map, cnt, List.getElem_range, add_ite]
      first | rw [mwp_load_bs (by simp (disch := first | omega | decide) only [go_sem, f0, f1, p0, p1, p2, p3, p4, ne_eq, not_true_eq_false, decide_false, Bool.false_or, cnt, List.getElem_range, add_ite]; rfl) (by simp)] | rw [mwp_load_b1 (by simp (disch := first | omega | decide) only [go_sem, f0, f1, p0, p1, p2, p3, p4, ne_eq, not_true_eq_false, decide_false, Bool.false_or, cnt, List.getElem_range, add_ite]; rfl) (by rfl)] | rw [mwp_aLoad_map (by simp (disch := first | omega | decide) only [go_sem, f0, f1, p0, p1, p2, p3, p4, ne_eq, not_true_eq_false, decide_false, Bool.false_or, cnt, List.getElem_range, add_ite]; rfl) (by first | omega | (simp; omega)) (fun _ => rfl)] | rw [mwp_aLoad_e1 (by simp (disch := first | omega | decide) only [go_sem, f0, f1, p0, p1, p2, p3, p4, ne_eq, not_true_eq_false, decide_false, Bool.false_or, cnt, List.getElem_range, add_ite]; rfl) (by simp) rfl] | skip
      exact hK _
    iterate 2 (apply aops_step (by decide) rfl; · (intro K hK; simp (disch := first | omega | decide) only [go_sem, f0, f1, p0, p1, p2, p3, p4, ne_eq, not_true_eq_false, decide_false, Bool.false_or, cnt, List.getElem_range, add_ite]; exact hK _))
    apply aops_step (by decide) rfl
    · intro K hK
      simp (disch := first | omega | decide) only [go_sem, f0, f1, p0, p1, p2, p3, p4, ne_eq, not_true_eq_false, decide_false, Bool.false_or, act_call, List.map, cnt, List.getElem_range, add_ite]
      apply mwp_call_r rfl rfl rfl
      · intro Q hQ
        simp (disch := first | omega | decide) only [go_sem, f0, f1, p0, p1, p2, p3, p4, ne_eq, not_true_eq_false, decide_false, Bool.false_or, peekL, cnt, List.getElem_range, add_ite]
        first | exact hQ | (rw [peek_own (by simp (disch := first | omega | decide) only [go_sem, f0, f1, p0, p1, p2, p3, p4, ne_eq, not_true_eq_false, decide_false, Bool.false_or, peekL, cnt, List.getElem_range, add_ite]; rfl)]; exact hQ) | (rw [peek_own (by simp (disch := first | omega | decide) only [go_sem, f0, f1, p0, p1, p2, p3, p4, ne_eq, not_true_eq_false, decide_false, Bool.false_or, peekL, cnt, List.getElem_range, add_ite]; rfl)]; simp (disch := first | omega | decide) only [go_sem, f0, f1, p0, p1, p2, p3, p4, ne_eq, not_true_eq_false, decide_false, Bool.false_or, peekL, cnt, List.getElem_range, add_ite]; rw [peek_own (by simp (disch := first | omega | decide) only [go_sem, f0, f1, p0, p1, p2, p3, p4, ne_eq, not_true_eq_false, decide_false, Bool.false_or, peekL, cnt, List.getElem_range, add_ite]; rfl)]; exact hQ) | (rw [peek_own (by simp (disch := first | omega | decide) only [go_sem, f0, f1, p0, p1, p2, p3, p4, ne_eq, not_true_eq_false, decide_false, Bool.false_or, peekL, cnt, List.getElem_range, add_ite]; rfl)]; simp (disch := first | omega | decide) only [go_sem, f0, f1, p0, p1, p2, p3, p4, ne_eq, not_true_eq_false, decide_false, Bool.false_or, peekL, cnt, List.getElem_range, add_ite]; exact hQ)
      · exact good_Slot _ _ _ _
      · simp [-List.map_take, -List.map_drop, noPtrL, noPtr, noPtrL_bsl, noPtrL_map, sub]
      · simp (disch := first | omega | decide) only [go_sem, f0, f1, p0, p1, p2, p3, p4, ne_eq, not_true_eq_false, decide_false, Bool.false_or, cnt, List.getElem_range, add_ite]
        exact hK _
    iterate 5 (apply aops_step (by decide) rfl; · (intro K hK; simp (disch := first | omega | decide) only [go_sem, f0, f1, p0, p1, p2, p3, p4, ne_eq, not_true_eq_false, decide_false, Bool.false_or, cnt, List.getElem_range, add_ite]; exact hK _))
    refine aops_nil ?_
    refine AW.seq ?_
    refine AW.seq ?_
    refine AW.region (cfg := cfg) ?_
    iterate 3 (apply aops_step (by decide) rfl; · (intro K hK; simp (disch := first | omega | decide) only [go_sem, f0, f1, p0, p1, p2, p3, p4, ne_eq, not_true_eq_false, decide_false, Bool.false_or, cnt, List.getElem_range, add_ite]; exact hK _))
    apply aops_merge' (by decide) (by first | exact want_of (d := 52) rfl (by simp (disch := first | omega | decide) only [go_sem, f0, f1, p0, p1, p2, p3, p4, ne_eq, not_true_eq_false, decide_false, Bool.false_or, opn_cond, cnt, List.getElem_range, add_ite]; rfl) | exact want_of_cond (d := 52) rfl (by simp (disch := first | omega | decide) only [go_sem, f0, f1, p0, p1, p2, p3, p4, ne_eq, not_true_eq_false, decide_false, Bool.false_or, opn_cond, cnt, List.getElem_range, add_ite]; rfl))
    · intro hc K hK
      have hc2 := hc
      simp only [beq_iff_eq, decide_eq_true_eq, decide_eq_false_iff_not, Bool.or_eq_true, Bool.and_eq_true, Bool.or_eq_false_iff, Bool.and_eq_false_iff] at hc2
      simp (disch := first | omega | decide) only [go_sem, f0, f1, p0, p1, p2, p3, p4, ne_eq, not_true_eq_false, decide_false, Bool.false_or, opn_cond, hc, if_true, cnt, List.getElem_range, add_ite]
      exact hK _
    apply aops_merge' (by decide) (by first | exact want_of (d := 52) rfl (by simp (disch := first | omega | decide) only [go_sem, f0, f1, p0, p1, p2, p3, p4, ne_eq, not_true_eq_false, decide_false, Bool.false_or, opn_cond, cnt, List.getElem_range, add_ite]; rfl) | exact want_of_cond (d := 52) rfl (by simp (disch := first | omega | decide) only [go_sem, f0, f1, p0, p1, p2, p3, p4, ne_eq, not_true_eq_false, decide_false, Bool.false_or, opn_cond, cnt, List.getElem_range, add_ite]; rfl))
    · intro hc K hK
      have hc2 := hc
      simp only [beq_iff_eq, decide_eq_true_eq, decide_eq_false_iff_not, Bool.or_eq_true, Bool.and_eq_true, Bool.or_eq_false_iff, Bool.and_eq_false_iff] at hc2
      simp (disch := first | omega | decide) only [go_sem, f0, f1, p0, p1, p2, p3, p4, ne_eq, not_true_eq_false, decide_false, Bool.false_or, opn_cond, hc, if_true, cnt, List.getElem_range, add_ite]
      exact hK _
    iterate 2 (apply aops_step (by decide) rfl; · (intro K hK; simp (disch := first | omega | decide) only [go_sem, f0, f1, p0, p1, p2, p3, p4, ne_eq, not_true_eq_false, decide_false, Bool.false_or, cnt, List.getElem_range, add_ite]; exact hK _))
    apply aops_merge' (by decide) (by first | exact want_of (d := 56) rfl (by simp (disch := first | omega | decide) only [go_sem, f0, f1, p0, p1, p2, p3, p4, ne_eq, not_true_eq_false, decide_false, Bool.false_or, opn_cond, cnt, List.getElem_range, add_ite]; rfl) | exact want_of_cond (d := 56) rfl (by simp (disch := first | omega | decide) only [go_sem, f0, f1, p0, p1, p2, p3, p4, ne_eq, not_true_eq_false, decide_false, Bool.false_or, opn_cond, cnt, List.getElem_range, add_ite]; rfl))
    · intro hc K hK
      have hc2 := hc
      simp only [beq_iff_eq, decide_eq_true_eq, decide_eq_false_iff_not, Bool.or_eq_true, Bool.and_eq_true, Bool.or_eq_false_iff, Bool.and_eq_false_iff] at hc2
      simp (disch := first | omega | decide) only [go_sem, f0, f1, p0, p1, p2, p3, p4, ne_eq, not_true_eq_false, decide_false, Bool.false_or, opn_cond, hc, if_true, cnt, List.getElem_range, add_ite]
      exact hK _
    apply aops_merge' (by decide) (by first | exact want_of (d := 56) rfl (by simp (disch := first | omega | decide) only [go_sem, f0, f1, p0, p1, p2, p3, p4, ne_eq, not_true_eq_false, decide_false, Bool.false_or, opn_cond, cnt, List.getElem_range, add_ite]; rfl) | exact want_of_cond (d := 56) rfl (by simp (disch := first | omega | decide) only [go_sem, f0, f1, p0, p1, p2, p3, p4, ne_eq, not_true_eq_false, decide_false, Bool.false_or, opn_cond, cnt, List.getElem_range, add_ite]; rfl))
    · intro hc K hK
      have hc2 := hc
      simp only [beq_iff_eq, decide_eq_true_eq, decide_eq_false_iff_not, Bool.or_eq_true, Bool.and_eq_true, Bool.or_eq_false_iff, Bool.and_eq_false_iff] at hc2
      simp (disch := first | omega | decide) only [go_sem, f0, f1, p0, p1, p2, p3, p4, ne_eq, not_true_eq_false, decide_false, Bool.false_or, opn_cond, hc, if_true, cnt, List.getElem_range, add_ite]
      exact hK _
    apply aops_merge' (by decide) (by first | exact want_of (d := 56) rfl (by simp (disch := first | omega | decide) only [go_sem, f0, f1, p0, p1, p2, p3, p4, ne_eq, not_true_eq_false, decide_false, Bool.false_or, opn_cond, cnt, List.getElem_range, add_ite]; rfl) | exact want_of_cond (d := 56) rfl (by simp (disch := first | omega | decide) only [go_sem, f0, f1, p0, p1, p2, p3, p4, ne_eq, not_true_eq_false, decide_false, Bool.false_or, opn_cond, cnt, List.getElem_range, add_ite]; rfl))
    · intro hc K hK
      have hc2 := hc
      simp only [beq_iff_eq, decide_eq_true_eq, decide_eq_false_iff_not, Bool.or_eq_true, Bool.and_eq_true, Bool.or_eq_false_iff, Bool.and_eq_false_iff] at hc2
      simp (disch := first | omega | decide) only [go_sem, f0, f1, p0, p1, p2, p3, p4, ne_eq, not_true_eq_false, decide_false, Bool.false_or, opn_cond, hc, if_true, cnt, List.getElem_range, add_ite]
      exact hK _
    iterate 2 (apply aops_step (by decide) rfl; · (intro K hK; simp (disch := first | omega | decide) only [go_sem, f0, f1, p0, p1, p2, p3, p4, ne_eq, not_true_eq_false, decide_false, Bool.false_or, cnt, List.getElem_range, add_ite]; exact hK _))
    apply aops_merge' (by decide) (by first | exact want_of (d := 61) rfl (by simp (disch := first | omega | decide) only [go_sem, f0, f1, p0, p1, p2, p3, p4, ne_eq, not_true_eq_false, decide_false, Bool.false_or, opn_cond, cnt, List.getElem_range, add_ite]; rfl) | exact want_of_cond (d := 61) rfl (by simp (disch := first | omega | decide) only [go_sem, f0, f1, p0, p1, p2, p3, p4, ne_eq, not_true_eq_false, decide_false, Bool.false_or, opn_cond, cnt, List.getElem_range, add_ite]; rfl))
    · intro hc K hK
      have hc2 := hc
      simp only [beq_iff_eq, decide_eq_true_eq, decide_eq_false_iff_not, Bool.or_eq_true, Bool.and_eq_true, Bool.or_eq_false_iff, Bool.and_eq_false_iff] at hc2
      simp (disch := first | omega | decide) only [go_sem, f0, f1, p0, p1, p2, p3, p4, ne_eq, not_true_eq_false, decide_false, Bool.false_or, opn_cond, hc, if_true, cnt, List.getElem_range, add_ite]
      exact hK _
    apply aops_merge' (by decide) (by first | exact want_of (d := 61) rfl (by simp (disch := first | omega | decide) only [go_sem, f0, f1, p0, p1, p2, p3, p4, ne_eq, not_true_eq_false, decide_false, Bool.false_or, opn_cond, cnt, List.getElem_range, add_ite]; rfl) | exact want_of_cond (d := 61) rfl (by simp (disch := first | omega | decide) only [go_sem, f0, f1, p0, p1, p2, p3, p4, ne_eq, not_true_eq_false, decide_false, Bool.false_or, opn_cond, cnt, List.getElem_range, add_ite]; rfl))
    · intro hc K hK
      have hc2 := hc
      simp only [beq_iff_eq, decide_eq_true_eq, decide_eq_false_iff_not, Bool.or_eq_true, Bool.and_eq_true, Bool.or_eq_false_iff, Bool.and_eq_false_iff] at hc2
      simp (disch := first | omega | decide) only [go_sem, f0, f1, p0, p1, p2, p3, p4, ne_eq, not_true_eq_false, decide_false, Bool.false_or, opn_cond, hc, if_true, cnt, List.getElem_range, add_ite]
      exact hK _
    iterate 2 (apply aops_step (by decide) rfl; · (intro K hK; simp (disch := first | omega | decide) only [go_sem, f0, f1, p0, p1, p2, p3, p4, ne_eq, not_true_eq_false, decide_false, Bool.false_or, cnt, List.getElem_range, add_ite]; exact hK _))
    apply aops_merge' (by decide) (by first | exact want_of (d := 65) rfl (by simp (disch := first | omega | decide) only [go_sem, f0, f1, p0, p1, p2, p3, p4, ne_eq, not_true_eq_false, decide_false, Bool.false_or, opn_cond, cnt, List.getElem_range, add_ite]; rfl) | exact want_of_cond (d := 65) rfl (by simp (disch := first | omega | decide) only [go_sem, f0, f1, p0, p1, p2, p3, p4, ne_eq, not_true_eq_false, decide_false, Bool.false_or, opn_cond, cnt, List.getElem_range, add_ite]; rfl))
    · intro hc K hK
      have hc2 := hc
      simp only [beq_iff_eq, decide_eq_true_eq, decide_eq_false_iff_not, Bool.or_eq_true, Bool.and_eq_true, Bool.or_eq_false_iff, Bool.and_eq_false_iff] at hc2
      simp (disch := first | omega | decide) only [go_sem, f0, f1, p0, p1, p2, p3, p4, ne_eq, not_true_eq_false, decide_false, Bool.false_or, opn_cond, hc, if_true, cnt, List.getElem_range, add_ite]
      exact hK _
    apply aops_merge' (by decide) (by first | exact want_of (d := 65) rfl (by simp (disch := first | omega | decide) only [go_sem, f0, f1, p0, p1, p2, p3, p4, ne_eq, not_true_eq_false, decide_false, Bool.false_or, opn_cond, cnt, List.getElem_range, add_ite]; rfl) | exact want_of_cond (d := 65) rfl (by simp (disch := first | omega | decide) only [go_sem, f0, f1, p0, p1, p2, p3, p4, ne_eq, not_true_eq_false, decide_false, Bool.false_or, opn_cond, cnt, List.getElem_range, add_ite]; rfl))
    · intro hc K hK
      have hc2 := hc
      simp only [beq_iff_eq, decide_eq_true_eq, decide_eq_false_iff_not, Bool.or_eq_true, Bool.and_eq_true, Bool.or_eq_false_iff, Bool.and_eq_false_iff] at hc2
      simp (disch := first | omega | decide) only [go_sem, f0, f1, p0, p1, p2, p3, p4, ne_eq, not_true_eq_false, decide_false, Bool.false_or, opn_cond, hc, if_true, cnt, List.getElem_range, add_ite]
      exact hK _
    apply aops_merge' (by decide) (by first | exact want_of (d := 65) rfl (by simp (disch := first | omega | decide) only [go_sem, f0, f1, p0, p1, p2, p3, p4, ne_eq, not_true_eq_false, decide_false, Bool.false_or, opn_cond, cnt, List.getElem_range, add_ite]; rfl) | exact want_of_cond (d := 65) rfl (by simp (disch := first | omega | decide) only [go_sem, f0, f1, p0, p1, p2, p3, p4, ne_eq, not_true_eq_false, decide_false, Bool.false_or, opn_cond, cnt, List.getElem_range, add_ite]; rfl))
    · intro hc K hK
      have hc2 := hc
      simp only [beq_iff_eq, decide_eq_true_eq, decide_eq_false_iff_not, Bool.or_eq_true, Bool.and_eq_true, Bool.or_eq_false_iff, Bool.and_eq_false_iff] at hc2
      simp (disch := first | omega | decide) only [go_sem, f0, f1, p0, p1, p2, p3, p4, ne_eq, not_true_eq_false, decide_false, Bool.false_or, opn_cond, hc, if_true, cnt, List.getElem_range, add_ite]
      exact hK _
    iterate 2 (apply aops_step (by decide) rfl; · (intro K hK; simp (disch := first | omega | decide) only [go_sem, f0, f1, p0, p1, p2, p3, p4, ne_eq, not_true_eq_false, decide_false, Bool.false_or, cnt, List.getElem_range, add_ite]; exact hK _))
    apply aops_merge' (by decide) (by first | exact want_of (d := 70) rfl (by simp (disch := first | omega | decide) only [go_sem, f0, f1, p0, p1, p2, p3, p4, ne_eq, not_true_eq_false, decide_false, Bool.false_or, opn_cond, cnt, List.getElem_range, add_ite]; rfl) | exact want_of_cond (d := 70) rfl (by simp (disch := first | omega | decide) only [go_sem, f0, f1, p0, p1, p2, p3, p4, ne_eq, not_true_eq_false, decide_false, Bool.false_or, opn_cond, cnt, List.getElem_range, add_ite]; rfl))
    · intro hc K hK
      have hc2 := hc
      simp only [beq_iff_eq, decide_eq_true_eq, decide_eq_false_iff_not, Bool.or_eq_true, Bool.and_eq_true, Bool.or_eq_false_iff, Bool.and_eq_false_iff] at hc2
      simp (disch := first | omega | decide) only [go_sem, f0, f1, p0, p1, p2, p3, p4, ne_eq, not_true_eq_false, decide_false, Bool.false_or, opn_cond, hc, if_true, cnt, List.getElem_range, add_ite]
      exact hK _
    apply aops_merge' (by decide) (by first | exact want_of (d := 70) rfl (by simp (disch := first | omega | decide) only [go_sem, f0, f1, p0, p1, p2, p3, p4, ne_eq, not_true_eq_false, decide_false, Bool.false_or, opn_cond, cnt, List.getElem_range, add_ite]; rfl) | exact want_of_cond (d := 70) rfl (by simp (disch := first | omega | decide) only [go_sem, f0, f1, p0, p1, p2, p3, p4, ne_eq, not_true_eq_false, decide_false, Bool.false_or, opn_cond, cnt, List.getElem_range, add_ite]; rfl))
    · intro hc K hK
      have hc2 := hc
      simp only [beq_iff_eq, decide_eq_true_eq, decide_eq_false_iff_not, Bool.or_eq_true, Bool.and_eq_true, Bool.or_eq_false_iff, Bool.and_eq_false_iff] at hc2
      simp (disch := first | omega | decide) only [go_sem, f0, f1, p0, p1, p2, p3, p4, ne_eq, not_true_eq_false, decide_false, Bool.false_or, opn_cond, hc, if_true, cnt, List.getElem_range, add_ite]
      exact hK _
    apply aops_merge' (by decide) (by first | exact want_of (d := 70) rfl (by simp (disch := first | omega | decide) only [go_sem, f0, f1, p0, p1, p2, p3, p4, ne_eq, not_true_eq_false, decide_false, Bool.false_or, opn_cond, cnt, List.getElem_range, add_ite]; rfl) | exact want_of_cond (d := 70) rfl (by simp (disch := first | omega | decide) only [go_sem, f0, f1, p0, p1, p2, p3, p4, ne_eq, not_true_eq_false, decide_false, Bool.false_or, opn_cond, cnt, List.getElem_range, add_ite]; rfl))
    · intro hc K hK
      have hc2 := hc
      simp only [beq_iff_eq, decide_eq_true_eq, decide_eq_false_iff_not, Bool.or_eq_true, Bool.and_eq_true, Bool.or_eq_false_iff, Bool.and_eq_false_iff] at hc2
      simp (disch := first | omega | decide) only [go_sem, f0, f1, p0, p1, p2, p3, p4, ne_eq, not_true_eq_false, decide_false, Bool.false_or, opn_cond, hc, if_true, cnt, List.getElem_range, add_ite]
      exact hK _
    apply aops_merge' (by decide) (by first | exact want_of (d := 70) rfl (by simp (disch := first | omega | decide) only [go_sem, f0, f1, p0, p1, p2, p3, p4, ne_eq, not_true_eq_false, decide_false, Bool.false_or, opn_cond, cnt, List.getElem_range, add_ite]; rfl) | exact want_of_cond (d := 70) rfl (by simp (disch := first | omega | decide) only [go_sem, f0, f1, p0, p1, p2, p3, p4, ne_eq, not_true_eq_false, decide_false, Bool.false_or, opn_cond, cnt, List.getElem_range, add_ite]; rfl))
    · intro hc K hK
      have hc2 := hc
      simp only [beq_iff_eq, decide_eq_true_eq, decide_eq_false_iff_not, Bool.or_eq_true, Bool.and_eq_true, Bool.or_eq_false_iff, Bool.and_eq_false_iff] at hc2
      simp (disch := first | omega | decide) only [go_sem, f0, f1, p0, p1, p2, p3, p4, ne_eq, not_true_eq_false, decide_false, Bool.false_or, opn_cond, hc, if_true, cnt, List.getElem_range, add_ite]
      exact hK _
    apply aops_merge' (by decide) (by first | exact want_of (d := 70) rfl (by simp (disch := first | omega | decide) only [go_sem, f0, f1, p0, p1, p2, p3, p4, ne_eq, not_true_eq_false, decide_false, Bool.false_or, opn_cond, cnt, List.getElem_range, add_ite]; rfl) | exact want_of_cond (d := 70) rfl (by simp (disch := first | omega | decide) only [go_sem, f0, f1, p0, p1, p2, p3, p4, ne_eq, not_true_eq_false, decide_false, Bool.false_or, opn_cond, cnt, List.getElem_range, add_ite]; rfl))
    · intro hc K hK
      have hc2 := hc
      simp only [beq_iff_eq, decide_eq_true_eq, decide_eq_false_iff_not, Bool.or_eq_true, Bool.and_eq_true, Bool.or_eq_false_iff, Bool.and_eq_false_iff] at hc2
      simp (disch := first | omega | decide) only [go_sem, f0, f1, p0, p1, p2, p3, p4, ne_eq, not_true_eq_false, decide_false, Bool.false_or, opn_cond, hc, if_true, cnt, List.getElem_range, add_ite]
      exact hK _
    apply aops_merge' (by decide) (by first | exact want_of (d := 70) rfl (by simp (disch := first | omega | decide) only [go_sem, f0, f1, p0, p1, p2, p3, p4, ne_eq, not_true_eq_false, decide_false, Bool.false_or, opn_cond, cnt, List.getElem_range, add_ite]; rfl) | exact want_of_cond (d := 70) rfl (by simp (disch := first | omega | decide) only [go_sem, f0, f1, p0, p1, p2, p3, p4, ne_eq, not_true_eq_false, decide_false, Bool.false_or, opn_cond, cnt, List.getElem_range, add_ite]; rfl))
    · intro hc K hK
      have hc2 := hc
      simp only [beq_iff_eq, decide_eq_true_eq, decide_eq_false_iff_not, Bool.or_eq_true, Bool.and_eq_true, Bool.or_eq_false_iff, Bool.and_eq_false_iff] at hc2
      simp (disch := first | omega | decide) only [go_sem, f0, f1, p0, p1, p2, p3, p4, ne_eq, not_true_eq_false, decide_false, Bool.false_or, opn_cond, hc, if_true, cnt, List.getElem_range, add_ite]
      exact hK _
    apply aops_merge' (by decide) (by first | exact want_of (d := 70) rfl (by simp (disch := first | omega | decide) only [go_sem, f0, f1, p0, p1, p2, p3, p4, ne_eq, not_true_eq_false, decide_false, Bool.false_or, opn_cond, cnt, List.getElem_range, add_ite]; rfl) | exact want_of_cond (d := 70) rfl (by simp (disch := first | omega | decide) only [go_sem, f0, f1, p0, p1, p2, p3, p4, ne_eq, not_true_eq_false, decide_false, Bool.false_or, opn_cond, cnt, List.getElem_range, add_ite]; rfl))
    · intro hc K hK
      have hc2 := hc
      simp only [beq_iff_eq, decide_eq_true_eq, decide_eq_false_iff_not, Bool.or_eq_true, Bool.and_eq_true, Bool.or_eq_false_iff, Bool.and_eq_false_iff] at hc2
      simp (disch := first | omega | decide) only [go_sem, f0, f1, p0, p1, p2, p3, p4, ne_eq, not_true_eq_false, decide_false, Bool.false_or, opn_cond, hc, if_true, cnt, List.getElem_range, add_ite]
      exact hK _
    iterate 2 (apply aops_step (by decide) rfl; · (intro K hK; simp (disch := first | omega | decide) only [go_sem, f0, f1, p0, p1, p2, p3, p4, ne_eq, not_true_eq_false, decide_false, Bool.false_or, cnt, List.getElem_range, add_ite]; exact hK _))
    apply aops_merge' (by decide) (by first | exact want_of (d := 79) rfl (by simp (disch := first | omega | decide) only [go_sem, f0, f1, p0, p1, p2, p3, p4, ne_eq, not_true_eq_false, decide_false, Bool.false_or, opn_cond, cnt, List.getElem_range, add_ite]; rfl) | exact want_of_cond (d := 79) rfl (by simp (disch := first | omega | decide) only [go_sem, f0, f1, p0, p1, p2, p3, p4, ne_eq, not_true_eq_false, decide_false, Bool.false_or, opn_cond, cnt, List.getElem_range, add_ite]; rfl))
    · intro hc K hK
      have hc2 := hc
      simp only [beq_iff_eq, decide_eq_true_eq, decide_eq_false_iff_not, Bool.or_eq_true, Bool.and_eq_true, Bool.or_eq_false_iff, Bool.and_eq_false_iff] at hc2
      simp (disch := first | omega | decide) only [go_sem, f0, f1, p0, p1, p2, p3, p4, ne_eq, not_true_eq_false, decide_false, Bool.false_or, opn_cond, hc, if_true, cnt, List.getElem_range, add_ite]
      exact hK _
    apply aops_merge' (by decide) (by first | exact want_of (d := 79) rfl (by simp (disch := first | omega | decide) only [go_sem, f0, f1, p0, p1, p2, p3, p4, ne_eq, not_true_eq_false, decide_false, Bool.false_or, opn_cond, cnt, List.getElem_range, add_ite]; rfl) | exact want_of_cond (d := 79) rfl (by simp (disch := first | omega | decide) only [go_sem, f0, f1, p0, p1, p2, p3, p4, ne_eq, not_true_eq_false, decide_false, Bool.false_or, opn_cond, cnt, List.getElem_range, add_ite]; rfl))
    · intro hc K hK
      have hc2 := hc
      simp only [beq_iff_eq, decide_eq_true_eq, decide_eq_false_iff_not, Bool.or_eq_true, Bool.and_eq_true, Bool.or_eq_false_iff, Bool.and_eq_false_iff] at hc2
      simp (disch := first | omega | decide) only [go_sem, f0, f1, p0, p1, p2, p3, p4, ne_eq, not_true_eq_false, decide_false, Bool.false_or, opn_cond, hc, if_true, cnt, List.getElem_range, add_ite]
      exact hK _
    apply aops_merge' (by decide) (by first | exact want_of (d := 79) rfl (by simp (disch := first | omega | decide) only [go_sem, f0, f1, p0, p1, p2, p3, p4, ne_eq, not_true_eq_false, decide_false, Bool.false_or, opn_cond, cnt, List.getElem_range, add_ite]; rfl) | exact want_of_cond (d := 79) rfl (by simp (disch := first | omega | decide) only [go_sem, f0, f1, p0, p1, p2, p3, p4, ne_eq, not_true_eq_false, decide_false, Bool.false_or, opn_cond, cnt, List.getElem_range, add_ite]; rfl))
    · intro hc K hK
      have hc2 := hc
      simp only [beq_iff_eq, decide_eq_true_eq, decide_eq_false_iff_not, Bool.or_eq_true, Bool.and_eq_true, Bool.or_eq_false_iff, Bool.and_eq_false_iff] at hc2
      simp (disch := first | omega | decide) only [go_sem, f0, f1, p0, p1, p2, p3, p4, ne_eq, not_true_eq_false, decide_false, Bool.false_or, opn_cond, hc, if_true, cnt, List.getElem_range, add_ite]
      exact hK _
    iterate 1 (apply aops_step (by decide) rfl; · (intro K hK; simp (disch := first | omega | decide) only [go_sem, f0, f1, p0, p1, p2, p3, p4, ne_eq, not_true_eq_false, decide_false, Bool.false_or, cnt, List.getElem_range, add_ite]; exact hK _))
    refine aops_nil ?_
    apply AW.cond
    · simp (disch := first | omega | decide) only [go_sem, f0, f1, p0, p1, p2, p3, p4, ne_eq, not_true_eq_false, decide_false, Bool.false_or, cnt, List.getElem_range, add_ite]; rfl
    case ht =>
      intro hb
      try simp only [Bool.or_eq_true, Bool.and_eq_true, Bool.or_eq_false_iff, Bool.and_eq_false_iff, decide_eq_true_eq, decide_eq_false_iff_not] at hb
      refine AW.seq ?_
      refine AW.region (cfg := cfg) ?_
      iterate 1 (apply aops_step (by decide) rfl; · (intro K hK; simp (disch := first | omega | decide) only [go_sem, f0, f1, p0, p1, p2, p3, p4, ne_eq, not_true_eq_false, decide_false, Bool.false_or, cnt, List.getElem_range, add_ite]; exact hK _))
      refine aops_nil ?_
      refine AW.ret ?_
      refine ⟨.inr rfl, ?_⟩
      refine leaves_tmp1 4 rfl ?_ (by first | rfl | exact hG)
      simp (disch := first | omega | decide) only [go_sem, f0, f1, p0, p1, p2, p3, p4, ne_eq, not_true_eq_false, decide_false, Bool.false_or, cnt, List.getElem_range, add_ite]
      all_goals first | done | (exfalso; omega) | (exfalso; simp at hb; omega) | trace_state
    case hf =>
      intro hb
      try simp only [Bool.or_eq_true, Bool.and_eq_true, Bool.or_eq_false_iff, Bool.and_eq_false_iff, decide_eq_true_eq, decide_eq_false_iff_not] at hb
      refine AW.skip ?_
      refine AW.seq ?_
      refine AW.region (cfg := cfg) ?_
      iterate 1 (apply aops_step (by decide) rfl; · (intro K hK; simp (disch := first | omega | decide) only [go_sem, f0, f1, p0, p1, p2, p3, p4, ne_eq, not_true_eq_false, decide_false, Bool.false_or, cnt, List.getElem_range, add_ite]; exact hK _))
      apply aops_step (by decide) rfl
      · intro K hK
        rw [act_make el44 ti3]
        simp (disch := first | omega | decide) only [go_sem, f0, f1, p0, p1, p2, p3, p4, ne_eq, not_true_eq_false, decide_false, Bool.false_or, cnt, List.getElem_range, add_ite]
        rw [mwp_make (by simp [roomB]; omega)]
        exact hK _
      apply aops_step (by decide) rfl
      · intro K hK
        simp (disch := first | omega | decide) only [go_sem, f0, f1, p0, p1, p2, p3, p4, ne_eq, not_true_eq_false, decide_false, Bool.false_or, cnt, List.getElem_range, add_ite]
        rw [asg_tmp (by simp (disch := first | omega | decide) only [go_sem, f0, f1, p0, p1, p2, p3, p4, ne_eq, not_true_eq_false, decide_false, Bool.false_or, cnt, List.getElem_range, add_ite]; rfl)]
        exact hK _
      refine aops_nil ?_
      refine AW.seq ?_
      refine AW.seq ?_
      refine AW.region (cfg := cfg) ?_
      iterate 2 (apply aops_step (by decide) rfl; · (intro K hK; simp (disch := first | omega | decide) only [go_sem, f0, f1, p0, p1, p2, p3, p4, ne_eq, not_true_eq_false, decide_false, Bool.false_or, cnt, List.getElem_range, add_ite]; exact hK _))
      refine aops_nil ?_
      refine AW.block ?_
      refine AW.forN (fun k σ => ∃ s m, σ = ⟨140, s, m⟩ ∧ s 0 = .v (i64 (N : Int)) ∧ s 5 = .lptr (.tmp 5 0) (m.objs (.tmp 5 0)).1 0 ∧ (m.objs (.tmp 5 0)).2 = .box [.v (i64 (pS (N : Int))), .v (i64 (pF (N : Int))), .v (i64 (pL (N : Int)))] ∧ s 7 = .v (i64 (a : Int)) ∧ s 8 = .v (i64 ((a : Int) + (S : Int))) ∧ s 9 = .v (i64 (c : Int)) ∧ s 10 = .v (i64 ((c : Int) + (S : Int))) ∧ s 11 = .own (.var 11) (m.objs (.var 11)).1 0 (N) ∧ (m.objs (.var 11)).2 = .arr false 1 ((List.range N).map (cnt fun j => decide (a ≤ j ∧ j < a + k))) ∧ s 12 = .v (i64 ((a : Int) + (k : Int))) ∧ m.G = []) (S) ?_ ?_ ?_
      · refine ⟨_, _, rfl, ?_, ?_, ?_, ?_, ?_, ?_, ?_, ?_, ?_, ?_, hG⟩ <;> try simp (disch := first | omega | decide) only [go_sem, f0, f1, p0, p1, p2, p3, p4, ne_eq, not_true_eq_false, decide_false, Bool.false_or, cnt, List.getElem_range, add_ite]
        all_goals first | rfl | (simp; done) | (simp; omega) | (exfalso; omega) | (refine congrArg (Obj.arr false 1) (cnt_same ?_) <;> first | (intro j hj; rw [Bool.eq_iff_iff]; simp <;> omega) | (simp <;> omega)) | (refine congrArg (Obj.arr false 1) (cnt_up ?_ ?_) <;> first | (intro j hj; rw [Bool.eq_iff_iff]; simp <;> omega) | (simp <;> omega)) | (refine congrArg (Obj.arr false 1) (cnt_none rfl ?_); intro j hj; simp <;> omega) | (exfalso; simp at hb; omega) | trace_state
      · clear f0 f1 hG
        rintro k σ hk ⟨s, m, rfl, f0, f5, o5, f7, f8, f9, f10, f11, o11, f12, hG⟩
        obtain ⟨g5, o5⟩ : ∃ g, m.objs (.tmp 5 0) = (g, .box [.v (i64 (pS (N : Int))), .v (i64 (pF (N : Int))), .v (i64 (pL (N : Int)))]) := ⟨_, Prod.ext rfl o5⟩
        rw [o5] at f5
        obtain ⟨g11, o11⟩ : ∃ g, m.objs (.var 11) = (g, .arr false 1 ((List.range N).map (cnt fun j => decide (a ≤ j ∧ j < a + k)))) := ⟨_, Prod.ext rfl o11⟩
        rw [o11] at f11
        refine AW.seq ?_
        refine AW.seq ?_
        refine AW.region (cfg := cfg) ?_
        iterate 3 (apply aops_step (by decide) rfl; · (intro K hK; simp (disch := first | omega | decide) only [go_sem, f0, f5, f7, f8, f9, f10, f11, f12, o5, o11, p0, p1, p2, p3, p4, ne_eq, not_true_eq_false, decide_false, Bool.false_or, cnt, List.getElem_range, add_ite]; exact hK _))
        refine aops_nil ?_
        apply AW.cond
        · simp (disch := first | omega | decide) only [go_sem, f0, f5, f7, f8, f9, f10, f11, f12, o5, o11, p0, p1, p2, p3, p4, ne_eq, not_true_eq_false, decide_false, Bool.false_or, cnt, List.getElem_range, add_ite]; rfl
        case hf => intro hb; first | (simp at hb; done) | (simp at hb; omega)
        case ht =>
        intro hb
        refine AW.skip ?_
        refine AW.seq ?_
        refine AW.block ?_
        refine AW.region (cfg := cfg) ?_
        iterate 2 (apply aops_step (by decide) rfl; · (intro K hK; simp (disch := first | omega | decide) only [go_sem, f0, f5, f7, f8, f9, f10, f11, f12, o5, o11, p0, p1, p2, p3, p4, ne_eq, not_true_eq_false, decide_false, Bool.false_or, cnt, List.getElem_range, add_ite]; exact hK _))
        apply aops_step (by decide) rfl
        · intro K hK
          simp (disch := first | omega | decide) only [go_sem, f0, f5, f7, f8, f9, f10, f11, f12, o5, o11, p0, p1, p2, p3, p4, ne_eq, not_true_eq_false, decide_false, Bool.false_or, act_indexAddr_s u44 ti3, List.map, cnt, List.getElem_range, add_ite]
          first | rw [mwp_aIndex_own (by simp (disch := first | omega | decide) only [go_sem, f0, f5, f7, f8, f9, f10, f11, f12, o5, o11, p0, p1, p2, p3, p4, ne_eq, not_true_eq_false, decide_false, Bool.false_or, cnt, List.getElem_range, add_ite]; rfl) (by first | omega | (simp; omega)) (by first | omega | (simp; omega))] | skip
          exact hK _
        apply aops_step (by decide) rfl
        · intro K hK
          simp (disch := first | omega | decide) only [go_sem, f0, f5, f7, f8, f9, f10, f11, f12, o5, o11, p0, p1, p2, p3, p4, ne_eq, not_true_eq_false, decide_false, Bool.false_or, act_load_t ti3, List.map, cnt, List.getElem_range, add_ite]
          first | rw [mwp_load_bs (by simp (disch := first | omega | decide) only [go_sem, f0, f5, f7, f8, f9, f10, f11, f12, o5, o11, p0, p1, p2, p3, p4, ne_eq, not_true_eq_false, decide_false, Bool.false_or, cnt, List.getElem_range, add_ite]; rfl) (by simp)] | rw [mwp_load_b1 (by simp (disch := first | omega | decide) only [go_sem, f0, f5, f7, f8, f9, f10, f11, f12, o5, o11, p0, p1, p2, p3, p4, ne_eq, not_true_eq_false, decide_false, Bool.false_or, cnt, List.getElem_range, add_ite]; rfl) (by rfl)] | rw [mwp_aLoad_map (by simp (disch := first | omega | decide) only [go_sem, f0, f5, f7, f8, f9, f10, f11, f12, o5, o11, p0, p1, p2, p3, p4, ne_eq, not_true_eq_false, decide_false, Bool.false_or, cnt, List.getElem_range, add_ite]; rfl) (by first | omega | (simp; omega)) (fun _ => rfl)] | rw [mwp_aLoad_e1 (by simp (disch := first | omega | decide) only [go_sem, f0, f5, f7, f8, f9, f10, f11, f12, o5, o11, p0, p1, p2, p3, p4, ne_eq, not_true_eq_false, decide_false, Bool.false_or, cnt, List.getElem_range, add_ite]; rfl) (by simp) rfl] | skip
          exact hK _
        iterate 1 (apply aops_step (by decide) rfl; · (intro K hK; simp (disch := first | omega | decide) only [go_sem, f0, f5, f7, f8, f9, f10, f11, f12, o5, o11, p0, p1, p2, p3, p4, ne_eq, not_true_eq_false, decide_false, Bool.false_or, cnt, List.getElem_range, add_ite]; exact hK _))
        apply aops_step (by decide) rfl
        · intro K hK
          simp (disch := first | omega | decide) only [go_sem, f0, f5, f7, f8, f9, f10, f11, f12, o5, o11, p0, p1, p2, p3, p4, ne_eq, not_true_eq_false, decide_false, Bool.false_or, act_indexAddr_s u44 ti3, List.map, cnt, List.getElem_range, add_ite]
          first | rw [mwp_aIndex_own (by simp (disch := first | omega | decide) only [go_sem, f0, f5, f7, f8, f9, f10, f11, f12, o5, o11, p0, p1, p2, p3, p4, ne_eq, not_true_eq_false, decide_false, Bool.false_or, cnt, List.getElem_range, add_ite]; rfl) (by first | omega | (simp; omega)) (by first | omega | (simp; omega))] | skip
          exact hK _
        apply aops_step0 rfl
        · intro K hK
          simp (disch := first | omega | decide) only [go_sem, f0, f5, f7, f8, f9, f10, f11, f12, o5, o11, p0, p1, p2, p3, p4, ne_eq, not_true_eq_false, decide_false, Bool.false_or, act_store_t ti3, List.map, cnt, List.getElem_range, add_ite]
          first | rw [mwp_store_c (by simp (disch := first | omega | decide) only [go_sem, f0, f5, f7, f8, f9, f10, f11, f12, o5, o11, p0, p1, p2, p3, p4, ne_eq, not_true_eq_false, decide_false, Bool.false_or, cnt, List.getElem_range, add_ite]; rfl) (by rfl) (by rfl) (by rfl) (by simp)] | rw [mwp_aStore_map (by simp (disch := first | omega | decide) only [go_sem, f0, f5, f7, f8, f9, f10, f11, f12, o5, o11, p0, p1, p2, p3, p4, ne_eq, not_true_eq_false, decide_false, Bool.false_or, cnt, List.getElem_range, add_ite]; rfl) (by first | omega | (simp; omega)) (fun _ => rfl) rfl rfl (fun _ => rfl)] | skip
          try simp only [setAt, cellsL, cellsOf_agg, cellsOf_base, List.map_cons, List.map_nil, List.set_cons_zero, List.set_cons_succ, Nat.reduceAdd, Nat.zero_add]
          exact hK _
        refine aops_nil ?_
        refine AW.region (cfg := cfg) ?_
        iterate 3 (apply aops_step (by decide) rfl; · (intro K hK; simp (disch := first | omega | decide) only [go_sem, f0, f5, f7, f8, f9, f10, f11, f12, o5, o11, p0, p1, p2, p3, p4, ne_eq, not_true_eq_false, decide_false, Bool.false_or, cnt, List.getElem_range, add_ite]; exact hK _))
        refine aops_nil ?_
        refine ⟨_, _, rfl, ?_, ?_, ?_, ?_, ?_, ?_, ?_, ?_, ?_, ?_, hG⟩ <;> try simp (disch := first | omega | decide) only [go_sem, f0, f5, f7, f8, f9, f10, f11, f12, o5, o11, p0, p1, p2, p3, p4, ne_eq, not_true_eq_false, decide_false, Bool.false_or, cnt, List.getElem_range, add_ite]
        all_goals first | rfl | (simp; done) | (simp; omega) | (exfalso; omega) | (refine congrArg (Obj.arr false 1) (cnt_same ?_) <;> first | (intro j hj; rw [Bool.eq_iff_iff]; simp <;> omega) | (simp <;> omega)) | (refine congrArg (Obj.arr false 1) (cnt_up ?_ ?_) <;> first | (intro j hj; rw [Bool.eq_iff_iff]; simp <;> omega) | (simp <;> omega)) | (refine congrArg (Obj.arr false 1) (cnt_none rfl ?_); intro j hj; simp <;> omega) | (exfalso; simp at hb; omega) | trace_state
      · clear f0 f1 hG
        rintro σ ⟨s, m, rfl, f0, f5, o5, f7, f8, f9, f10, f11, o11, f12, hG⟩
        obtain ⟨g5, o5⟩ : ∃ g, m.objs (.tmp 5 0) = (g, .box [.v (i64 (pS (N : Int))), .v (i64 (pF (N : Int))), .v (i64 (pL (N : Int)))]) := ⟨_, Prod.ext rfl o5⟩
        rw [o5] at f5
        obtain ⟨g11, o11⟩ : ∃ g, m.objs (.var 11) = (g, .arr false 1 ((List.range N).map (cnt fun j => decide (a ≤ j ∧ j < a + S)))) := ⟨_, Prod.ext rfl o11⟩
        rw [o11] at f11
        refine AW.seq ?_
        refine AW.seq ?_
        refine AW.region (cfg := cfg) ?_
        iterate 3 (apply aops_step (by decide) rfl; · (intro K hK; simp (disch := first | omega | decide) only [go_sem, f0, f5, f7, f8, f9, f10, f11, f12, o5, o11, p0, p1, p2, p3, p4, ne_eq, not_true_eq_false, decide_false, Bool.false_or, cnt, List.getElem_range, add_ite]; exact hK _))
        refine aops_nil ?_
        apply AW.cond
        · simp (disch := first | omega | decide) only [go_sem, f0, f5, f7, f8, f9, f10, f11, f12, o5, o11, p0, p1, p2, p3, p4, ne_eq, not_true_eq_false, decide_false, Bool.false_or, cnt, List.getElem_range, add_ite]; rfl
        case ht => intro hb; first | (simp at hb; done) | (simp at hb; omega)
        case hf =>
        intro hb
        refine AW.exit ?_
        refine AW.seq ?_
        refine AW.seq ?_
        refine AW.region (cfg := cfg) ?_
        iterate 2 (apply aops_step (by decide) rfl; · (intro K hK; simp (disch := first | omega | decide) only [go_sem, f0, f5, f7, f8, f9, f10, f11, f12, o5, o11, p0, p1, p2, p3, p4, ne_eq, not_true_eq_false, decide_false, Bool.false_or, cnt, List.getElem_range, add_ite]; exact hK _))
        refine aops_nil ?_
        refine AW.block ?_
        refine AW.forN (fun k σ => ∃ s m, σ = ⟨140, s, m⟩ ∧ s 0 = .v (i64 (N : Int)) ∧ s 5 = .lptr (.tmp 5 0) (m.objs (.tmp 5 0)).1 0 ∧ (m.objs (.tmp 5 0)).2 = .box [.v (i64 (pS (N : Int))), .v (i64 (pF (N : Int))), .v (i64 (pL (N : Int)))] ∧ s 7 = .v (i64 (a : Int)) ∧ s 8 = .v (i64 ((a : Int) + (S : Int))) ∧ s 9 = .v (i64 (c : Int)) ∧ s 10 = .v (i64 ((c : Int) + (S : Int))) ∧ s 11 = .own (.var 11) (m.objs (.var 11)).1 0 (N) ∧ (m.objs (.var 11)).2 = .arr false 1 ((List.range N).map (cnt fun j => decide ((a ≤ j ∧ j < a + S) ∨ (c ≤ j ∧ j < c + k)))) ∧ s 13 = .v (i64 ((c : Int) + (k : Int))) ∧ m.G = []) (S) ?_ ?_ ?_
        · refine ⟨_, _, rfl, ?_, ?_, ?_, ?_, ?_, ?_, ?_, ?_, ?_, ?_, hG⟩ <;> try simp (disch := first | omega | decide) only [go_sem, f0, f5, f7, f8, f9, f10, f11, f12, o5, o11, p0, p1, p2, p3, p4, ne_eq, not_true_eq_false, decide_false, Bool.false_or, cnt, List.getElem_range, add_ite]
          all_goals first | rfl | (simp; done) | (simp; omega) | (exfalso; omega) | (refine congrArg (Obj.arr false 1) (cnt_same ?_) <;> first | (intro j hj; rw [Bool.eq_iff_iff]; simp <;> omega) | (simp <;> omega)) | (refine congrArg (Obj.arr false 1) (cnt_up ?_ ?_) <;> first | (intro j hj; rw [Bool.eq_iff_iff]; simp <;> omega) | (simp <;> omega)) | (refine congrArg (Obj.arr false 1) (cnt_none rfl ?_); intro j hj; simp <;> omega) | (exfalso; simp at hb; omega) | trace_state
        · clear f0 f5 f7 f8 f9 f10 f11 f12 o5 o11 hG
          rintro k σ hk ⟨s, m, rfl, f0, f5, o5, f7, f8, f9, f10, f11, o11, f13, hG⟩
          obtain ⟨g5, o5⟩ : ∃ g, m.objs (.tmp 5 0) = (g, .box [.v (i64 (pS (N : Int))), .v (i64 (pF (N : Int))), .v (i64 (pL (N : Int)))]) := ⟨_, Prod.ext rfl o5⟩
          rw [o5] at f5
          obtain ⟨g11, o11⟩ : ∃ g, m.objs (.var 11) = (g, .arr false 1 ((List.range N).map (cnt fun j => decide ((a ≤ j ∧ j < a + S) ∨ (c ≤ j ∧ j < c + k))))) := ⟨_, Prod.ext rfl o11⟩
          rw [o11] at f11
          refine AW.seq ?_
          refine AW.seq ?_
          refine AW.region (cfg := cfg) ?_
          iterate 3 (apply aops_step (by decide) rfl; · (intro K hK; simp (disch := first | omega | decide) only [go_sem, f0, f5, f7, f8, f9, f10, f11, f13, o5, o11, p0, p1, p2, p3, p4, ne_eq, not_true_eq_false, decide_false, Bool.false_or, cnt, List.getElem_range, add_ite]; exact hK _))
          refine aops_nil ?_
          apply AW.cond
          · simp (disch := first | omega | decide) only [go_sem, f0, f5, f7, f8, f9, f10, f11, f13, o5, o11, p0, p1, p2, p3, p4, ne_eq, not_true_eq_false, decide_false, Bool.false_or, cnt, List.getElem_range, add_ite]; rfl
          case hf => intro hb; first | (simp at hb; done) | (simp at hb; omega)
          case ht =>
          intro hb
          refine AW.skip ?_
          refine AW.seq ?_
          refine AW.block ?_
          refine AW.region (cfg := cfg) ?_
          iterate 2 (apply aops_step (by decide) rfl; · (intro K hK; simp (disch := first | omega | decide) only [go_sem, f0, f5, f7, f8, f9, f10, f11, f13, o5, o11, p0, p1, p2, p3, p4, ne_eq, not_true_eq_false, decide_false, Bool.false_or, cnt, List.getElem_range, add_ite]; exact hK _))
          apply aops_step (by decide) rfl
          · intro K hK
            simp (disch := first | omega | decide) only [go_sem, f0, f5, f7, f8, f9, f10, f11, f13, o5, o11, p0, p1, p2, p3, p4, ne_eq, not_true_eq_false, decide_false, Bool.false_or, act_indexAddr_s u44 ti3, List.map, cnt, List.getElem_range, add_ite]
            first | rw [mwp_aIndex_own (by simp (disch := first | omega | decide) only [go_sem, f0, f5, f7, f8, f9, f10, f11, f13, o5, o11, p0, p1, p2, p3, p4, ne_eq, not_true_eq_false, decide_false, Bool.false_or, cnt, List.getElem_range, add_ite]; rfl) (by first | omega | (simp; omega)) (by first | omega | (simp; omega))] | skip
            exact hK _
          apply aops_step (by decide) rfl
          · intro K hK
            simp (disch := first | omega | decide) only [go_sem, f0, f5, f7, f8, f9, f10, f11, f13, o5, o11, p0, p1, p2, p3, p4, ne_eq, not_true_eq_false, decide_false, Bool.false_or, act_load_t ti3, List.map, cnt, List.getElem_range, add_ite]
            first | rw [mwp_load_bs (by simp (disch := first | omega | decide) only [go_sem, f0, f5, f7, f8, f9, f10, f11, f13, o5, o11, p0, p1, p2, p3, p4, ne_eq, not_true_eq_false, decide_false, Bool.false_or, cnt, List.getElem_range, add_ite]; rfl) (by simp)] | rw [mwp_load_b1 (by simp (disch := first | omega | decide) only [go_sem, f0, f5, f7, f8, f9, f10, f11, f13, o5, o11, p0, p1, p2, p3, p4, ne_eq, not_true_eq_false, decide_false, Bool.false_or, cnt, List.getElem_range, add_ite]; rfl) (by rfl)] | rw [mwp_aLoad_map (by simp (disch := first | omega | decide) only [go_sem, f0, f5, f7, f8, f9, f10, f11, f13, o5, o11, p0, p1, p2, p3, p4, ne_eq, not_true_eq_false, decide_false, Bool.false_or, cnt, List.getElem_range, add_ite]; rfl) (by first | omega | (simp; omega)) (fun _ => rfl)] | rw [mwp_aLoad_e1 (by simp (disch := first | omega | decide) only [go_sem, f0, f5, f7, f8, f9, f10, f11, f13, o5, o11, p0, p1, p2, p3, p4, ne_eq, not_true_eq_false, decide_false, Bool.false_or, cnt, List.getElem_range, add_ite]; rfl) (by simp) rfl] | skip
            exact hK _
          iterate 1 (apply aops_step (by decide) rfl; · (intro K hK; simp (disch := first | omega | decide) only [go_sem, f0, f5, f7, f8, f9, f10, f11, f13, o5, o11, p0, p1, p2, p3, p4, ne_eq, not_true_eq_false, decide_false, Bool.false_or, cnt, List.getElem_range, add_ite]; exact hK _))
          apply aops_step (by decide) rfl
          · intro K hK
            simp (disch := first | omega | decide) only [go_sem, f0, f5, f7, f8, f9, f10, f11, f13, o5, o11, p0, p1, p2, p3, p4, ne_eq, not_true_eq_false, decide_false, Bool.false_or, act_indexAddr_s u44 ti3, List.map, cnt, List.getElem_range, add_ite]
            first | rw [mwp_aIndex_own (by simp (disch := first | omega | decide) only [go_sem, f0, f5, f7, f8, f9, f10, f11, f13, o5, o11, p0, p1, p2, p3, p4, ne_eq, not_true_eq_false, decide_false, Bool.false_or, cnt, List.getElem_range, add_ite]; rfl) (by first | omega | (simp; omega)) (by first | omega | (simp; omega))] | skip
            exact hK _
          apply aops_step0 rfl
          · intro K hK
            simp (disch := first | omega | decide) only [go_sem, f0, f5, f7, f8, f9, f10, f11, f13, o5, o11, p0, p1, p2, p3, p4, ne_eq, not_true_eq_false, decide_false, Bool.false_or, act_store_t ti3, List.map, cnt, List.getElem_range, add_ite]
            first | rw [mwp_store_c (by simp (disch := first | omega | decide) only [go_sem, f0, f5, f7, f8, f9, f10, f11, f13, o5, o11, p0, p1, p2, p3, p4, ne_eq, not_true_eq_false, decide_false, Bool.false_or, cnt, List.getElem_range, add_ite]; rfl) (by rfl) (by rfl) (by rfl) (by simp)] | rw [mwp_aStore_map (by simp (disch := first | omega | decide) only [go_sem, f0, f5, f7, f8, f9, f10, f11, f13, o5, o11, p0, p1, p2, p3, p4, ne_eq, not_true_eq_false, decide_false, Bool.false_or, cnt, List.getElem_range, add_ite]; rfl) (by first | omega | (simp; omega)) (fun _ => rfl) rfl rfl (fun _ => rfl)] | skip
            try simp only [setAt, cellsL, cellsOf_agg, cellsOf_base, List.map_cons, List.map_nil, List.set_cons_zero, List.set_cons_succ, Nat.reduceAdd, Nat.zero_add]
            exact hK _
          refine aops_nil ?_
          refine AW.region (cfg := cfg) ?_
          iterate 3 (apply aops_step (by decide) rfl; · (intro K hK; simp (disch := first | omega | decide) only [go_sem, f0, f5, f7, f8, f9, f10, f11, f13, o5, o11, p0, p1, p2, p3, p4, ne_eq, not_true_eq_false, decide_false, Bool.false_or, cnt, List.getElem_range, add_ite]; exact hK _))
          refine aops_nil ?_
          refine ⟨_, _, rfl, ?_, ?_, ?_, ?_, ?_, ?_, ?_, ?_, ?_, ?_, hG⟩ <;> try simp (disch := first | omega | decide) only [go_sem, f0, f5, f7, f8, f9, f10, f11, f13, o5, o11, p0, p1, p2, p3, p4, ne_eq, not_true_eq_false, decide_false, Bool.false_or, cnt, List.getElem_range, add_ite]
          all_goals first | rfl | (simp; done) | (simp; omega) | (exfalso; omega) | (refine congrArg (Obj.arr false 1) (cnt_same ?_) <;> first | (intro j hj; rw [Bool.eq_iff_iff]; simp <;> omega) | (simp <;> omega)) | (refine congrArg (Obj.arr false 1) (cnt_up ?_ ?_) <;> first | (intro j hj; rw [Bool.eq_iff_iff]; simp <;> omega) | (simp <;> omega)) | (refine congrArg (Obj.arr false 1) (cnt_none rfl ?_); intro j hj; simp <;> omega) | (exfalso; simp at hb; omega) | trace_state
        · clear f0 f5 f7 f8 f9 f10 f11 f12 o5 o11 hG
          rintro σ ⟨s, m, rfl, f0, f5, o5, f7, f8, f9, f10, f11, o11, f13, hG⟩
          obtain ⟨g5, o5⟩ : ∃ g, m.objs (.tmp 5 0) = (g, .box [.v (i64 (pS (N : Int))), .v (i64 (pF (N : Int))), .v (i64 (pL (N : Int)))]) := ⟨_, Prod.ext rfl o5⟩
          rw [o5] at f5
          obtain ⟨g11, o11⟩ : ∃ g, m.objs (.var 11) = (g, .arr false 1 ((List.range N).map (cnt fun j => decide ((a ≤ j ∧ j < a + S) ∨ (c ≤ j ∧ j < c + S))))) := ⟨_, Prod.ext rfl o11⟩
          rw [o11] at f11
          refine AW.seq ?_
          refine AW.seq ?_
          refine AW.region (cfg := cfg) ?_
          iterate 3 (apply aops_step (by decide) rfl; · (intro K hK; simp (disch := first | omega | decide) only [go_sem, f0, f5, f7, f8, f9, f10, f11, f13, o5, o11, p0, p1, p2, p3, p4, ne_eq, not_true_eq_false, decide_false, Bool.false_or, cnt, List.getElem_range, add_ite]; exact hK _))
          refine aops_nil ?_
          apply AW.cond
          · simp (disch := first | omega | decide) only [go_sem, f0, f5, f7, f8, f9, f10, f11, f13, o5, o11, p0, p1, p2, p3, p4, ne_eq, not_true_eq_false, decide_false, Bool.false_or, cnt, List.getElem_range, add_ite]; rfl
          case ht => intro hb; first | (simp at hb; done) | (simp at hb; omega)
          case hf =>
          intro hb
          refine AW.exit ?_
          refine AW.seq ?_
          refine AW.seq ?_
          refine AW.region (cfg := cfg) ?_
          iterate 1 (apply aops_step (by decide) rfl; · (intro K hK; simp (disch := first | omega | decide) only [go_sem, f0, f5, f7, f8, f9, f10, f11, f13, o5, o11, p0, p1, p2, p3, p4, ne_eq, not_true_eq_false, decide_false, Bool.false_or, cnt, List.getElem_range, add_ite]; exact hK _))
          refine aops_nil ?_
          refine AW.block ?_
          refine AW.forN (fun k σ => ∃ s m, σ = ⟨140, s, m⟩ ∧ s 0 = .v (i64 (N : Int)) ∧ s 5 = .lptr (.tmp 5 0) (m.objs (.tmp 5 0)).1 0 ∧ (m.objs (.tmp 5 0)).2 = .box [.v (i64 (pS (N : Int))), .v (i64 (pF (N : Int))), .v (i64 (pL (N : Int)))] ∧ s 7 = .v (i64 (a : Int)) ∧ s 8 = .v (i64 ((a : Int) + (S : Int))) ∧ s 9 = .v (i64 (c : Int)) ∧ s 10 = .v (i64 ((c : Int) + (S : Int))) ∧ s 11 = .own (.var 11) (m.objs (.var 11)).1 0 (N) ∧ (m.objs (.var 11)).2 = .arr false 1 ((List.range N).map (cnt fun j => decide (j < 2 * S + k))) ∧ s 14 = .v (i64 (k : Int)) ∧ m.G = []) (N) ?_ ?_ ?_
          · refine ⟨_, _, rfl, ?_, ?_, ?_, ?_, ?_, ?_, ?_, ?_, ?_, ?_, hG⟩ <;> try simp (disch := first | omega | decide) only [go_sem, f0, f5, f7, f8, f9, f10, f11, f13, o5, o11, p0, p1, p2, p3, p4, ne_eq, not_true_eq_false, decide_false, Bool.false_or, cnt, List.getElem_range, add_ite]
            all_goals first | rfl | (simp; done) | (simp; omega) | (exfalso; omega) | (refine congrArg (Obj.arr false 1) (cnt_same ?_) <;> first | (intro j hj; rw [Bool.eq_iff_iff]; simp <;> omega) | (simp <;> omega)) | (refine congrArg (Obj.arr false 1) (cnt_up ?_ ?_) <;> first | (intro j hj; rw [Bool.eq_iff_iff]; simp <;> omega) | (simp <;> omega)) | (refine congrArg (Obj.arr false 1) (cnt_none rfl ?_); intro j hj; simp <;> omega) | (exfalso; simp at hb; omega) | trace_state
          · clear f0 f5 f7 f8 f9 f10 f11 f13 o5 o11 hG
            rintro k σ hk ⟨s, m, rfl, f0, f5, o5, f7, f8, f9, f10, f11, o11, f14, hG⟩
            obtain ⟨g5, o5⟩ : ∃ g, m.objs (.tmp 5 0) = (g, .box [.v (i64 (pS (N : Int))), .v (i64 (pF (N : Int))), .v (i64 (pL (N : Int)))]) := ⟨_, Prod.ext rfl o5⟩
            rw [o5] at f5
            obtain ⟨g11, o11⟩ : ∃ g, m.objs (.var 11) = (g, .arr false 1 ((List.range N).map (cnt fun j => decide (j < 2 * S + k)))) := ⟨_, Prod.ext rfl o11⟩
            rw [o11] at f11
            refine AW.seq ?_
            refine AW.seq ?_
            refine AW.region (cfg := cfg) ?_
            iterate 3 (apply aops_step (by decide) rfl; · (intro K hK; simp (disch := first | omega | decide) only [go_sem, f0, f5, f7, f8, f9, f10, f11, f14, o5, o11, p0, p1, p2, p3, p4, ne_eq, not_true_eq_false, decide_false, Bool.false_or, cnt, List.getElem_range, add_ite]; exact hK _))
            refine aops_nil ?_
            apply AW.cond
            · simp (disch := first | omega | decide) only [go_sem, f0, f5, f7, f8, f9, f10, f11, f14, o5, o11, p0, p1, p2, p3, p4, ne_eq, not_true_eq_false, decide_false, Bool.false_or, cnt, List.getElem_range, add_ite]; rfl
            case hf => intro hb; first | (simp at hb; done) | (simp at hb; omega)
            case ht =>
            intro hb
            refine AW.skip ?_
            refine AW.seq ?_
            refine AW.block ?_
            refine AW.seq ?_
            by_cases hsp : 2 * S + k < N
            · have hd := decide_eq_true hsp
              have p6 := p5 k (by omega)
              rw [if_pos hsp] at p6
              refine AW.region (cfg := cfg) ?_
              apply aops_step (by decide) rfl
              · intro K hK
                simp (disch := first | omega | decide) only [go_sem, f0, f5, f7, f8, f9, f10, f11, f14, o5, o11, p0, p1, p2, p3, p4, ne_eq, not_true_eq_false, decide_false, Bool.false_or, hd, p6, act_load_t ti33, List.map, cnt, List.getElem_range, add_ite]
                first | rw [mwp_load_bs (by simp (disch := first | omega | decide) only [go_sem, f0, f5, f7, f8, f9, f10, f11, f14, o5, o11, p0, p1, p2, p3, p4, ne_eq, not_true_eq_false, decide_false, Bool.false_or, hd, p6, cnt, List.getElem_range, add_ite]; rfl) (by simp)] | rw [mwp_load_b1 (by simp (disch := first | omega | decide) only [go_sem, f0, f5, f7, f8, f9, f10, f11, f14, o5, o11, p0, p1, p2, p3, p4, ne_eq, not_true_eq_false, decide_false, Bool.false_or, hd, p6, cnt, List.getElem_range, add_ite]; rfl) (by rfl)] | rw [mwp_aLoad_map (by simp (disch := first | omega | decide) only [go_sem, f0, f5, f7, f8, f9, f10, f11, f14, o5, o11, p0, p1, p2, p3, p4, ne_eq, not_true_eq_false, decide_false, Bool.false_or, hd, p6, cnt, List.getElem_range, add_ite]; rfl) (by first | omega | (simp; omega)) (fun _ => rfl)] | rw [mwp_aLoad_e1 (by simp (disch := first | omega | decide) only [go_sem, f0, f5, f7, f8, f9, f10, f11, f14, o5, o11, p0, p1, p2, p3, p4, ne_eq, not_true_eq_false, decide_false, Bool.false_or, hd, p6, cnt, List.getElem_range, add_ite]; rfl) (by simp) rfl] | skip
                exact hK _
              iterate 1 (apply aops_step (by decide) rfl; · (intro K hK; simp (disch := first | omega | decide) only [go_sem, f0, f5, f7, f8, f9, f10, f11, f14, o5, o11, p0, p1, p2, p3, p4, ne_eq, not_true_eq_false, decide_false, Bool.false_or, hd, p6, cnt, List.getElem_range, add_ite]; exact hK _))
              apply aops_step (by decide) rfl
              · intro K hK
                simp (disch := first | omega | decide) only [go_sem, f0, f5, f7, f8, f9, f10, f11, f14, o5, o11, p0, p1, p2, p3, p4, ne_eq, not_true_eq_false, decide_false, Bool.false_or, hd, p6, act_call, List.map, cnt, List.getElem_range, add_ite]
                apply mwp_call_s rfl rfl rfl
                · intro Q hQ
                  simp (disch := first | omega | decide) only [go_sem, f0, f5, f7, f8, f9, f10, f11, f14, o5, o11, p0, p1, p2, p3, p4, ne_eq, not_true_eq_false, decide_false, Bool.false_or, hd, p6, peekL, cnt, List.getElem_range, add_ite]
                  first | exact hQ | (rw [peek_own (by simp (disch := first | omega | decide) only [go_sem, f0, f5, f7, f8, f9, f10, f11, f14, o5, o11, p0, p1, p2, p3, p4, ne_eq, not_true_eq_false, decide_false, Bool.false_or, hd, p6, peekL, cnt, List.getElem_range, add_ite]; rfl)]; exact hQ) | (rw [peek_own (by simp (disch := first | omega | decide) only [go_sem, f0, f5, f7, f8, f9, f10, f11, f14, o5, o11, p0, p1, p2, p3, p4, ne_eq, not_true_eq_false, decide_false, Bool.false_or, hd, p6, peekL, cnt, List.getElem_range, add_ite]; rfl)]; simp (disch := first | omega | decide) only [go_sem, f0, f5, f7, f8, f9, f10, f11, f14, o5, o11, p0, p1, p2, p3, p4, ne_eq, not_true_eq_false, decide_false, Bool.false_or, hd, p6, peekL, cnt, List.getElem_range, add_ite]; rw [peek_own (by simp (disch := first | omega | decide) only [go_sem, f0, f5, f7, f8, f9, f10, f11, f14, o5, o11, p0, p1, p2, p3, p4, ne_eq, not_true_eq_false, decide_false, Bool.false_or, hd, p6, peekL, cnt, List.getElem_range, add_ite]; rfl)]; exact hQ) | (rw [peek_own (by simp (disch := first | omega | decide) only [go_sem, f0, f5, f7, f8, f9, f10, f11, f14, o5, o11, p0, p1, p2, p3, p4, ne_eq, not_true_eq_false, decide_false, Bool.false_or, hd, p6, peekL, cnt, List.getElem_range, add_ite]; rfl)]; simp (disch := first | omega | decide) only [go_sem, f0, f5, f7, f8, f9, f10, f11, f14, o5, o11, p0, p1, p2, p3, p4, ne_eq, not_true_eq_false, decide_false, Bool.false_or, hd, p6, peekL, cnt, List.getElem_range, add_ite]; exact hQ)
                · exact good_At _ _ _ _
                · simp [-List.map_take, -List.map_drop, noPtrL, noPtr, noPtrL_bsl, noPtrL_map, sub]
                · rfl
                · exact hK _
              iterate 1 (apply aops_step (by decide) rfl; · (intro K hK; simp (disch := first | omega | decide) only [go_sem, f0, f5, f7, f8, f9, f10, f11, f14, o5, o11, p0, p1, p2, p3, p4, ne_eq, not_true_eq_false, decide_false, Bool.false_or, hd, p6, cnt, List.getElem_range, add_ite]; exact hK _))
              refine aops_nil ?_
              refine AW.seq ?_
              refine AW.seq ?_
              refine AW.region (cfg := cfg) ?_
              iterate 3 (apply aops_step (by decide) rfl; · (intro K hK; simp (disch := first | omega | decide) only [go_sem, f0, f5, f7, f8, f9, f10, f11, f14, o5, o11, p0, p1, p2, p3, p4, ne_eq, not_true_eq_false, decide_false, Bool.false_or, hd, p6, cnt, List.getElem_range, add_ite]; exact hK _))
              refine aops_nil ?_
              apply AW.cond
              · simp (disch := first | omega | decide) only [go_sem, f0, f5, f7, f8, f9, f10, f11, f14, o5, o11, p0, p1, p2, p3, p4, ne_eq, not_true_eq_false, decide_false, Bool.false_or, hd, p6, cnt, List.getElem_range, add_ite]; rfl
              case ht =>
                intro hb
                try simp only [Bool.or_eq_true, Bool.and_eq_true, Bool.or_eq_false_iff, Bool.and_eq_false_iff, decide_eq_true_eq, decide_eq_false_iff_not] at hb
                refine AW.seq ?_
                refine AW.region (cfg := cfg) ?_
                iterate 1 (apply aops_step (by decide) rfl; · (intro K hK; simp (disch := first | omega | decide) only [go_sem, f0, f5, f7, f8, f9, f10, f11, f14, o5, o11, p0, p1, p2, p3, p4, ne_eq, not_true_eq_false, decide_false, Bool.false_or, hd, p6, cnt, List.getElem_range, add_ite]; exact hK _))
                refine aops_nil ?_
                refine AW.ret ?_
                refine ⟨.inr rfl, ?_⟩
                refine leaves_tmp1 4 rfl ?_ (by first | rfl | exact hG)
                simp (disch := first | omega | decide) only [go_sem, f0, f5, f7, f8, f9, f10, f11, f14, o5, o11, p0, p1, p2, p3, p4, ne_eq, not_true_eq_false, decide_false, Bool.false_or, hd, p6, cnt, List.getElem_range, add_ite]
                all_goals first | done | (exfalso; omega) | (exfalso; simp at hb; omega) | trace_state
              case hf =>
                intro hb
                try simp only [Bool.or_eq_true, Bool.and_eq_true, Bool.or_eq_false_iff, Bool.and_eq_false_iff, decide_eq_true_eq, decide_eq_false_iff_not] at hb
                refine AW.skip ?_
                refine AW.seq ?_
                refine AW.region (cfg := cfg) ?_
                iterate 2 (apply aops_step (by decide) rfl; · (intro K hK; simp (disch := first | omega | decide) only [go_sem, f0, f5, f7, f8, f9, f10, f11, f14, o5, o11, p0, p1, p2, p3, p4, ne_eq, not_true_eq_false, decide_false, Bool.false_or, hd, p6, cnt, List.getElem_range, add_ite]; exact hK _))
                refine aops_nil ?_
                apply AW.cond
                · simp (disch := first | omega | decide) only [go_sem, f0, f5, f7, f8, f9, f10, f11, f14, o5, o11, p0, p1, p2, p3, p4, ne_eq, not_true_eq_false, decide_false, Bool.false_or, hd, p6, cnt, List.getElem_range, add_ite]; rfl
                case ht =>
                  intro hb
                  try simp only [Bool.or_eq_true, Bool.and_eq_true, Bool.or_eq_false_iff, Bool.and_eq_false_iff, decide_eq_true_eq, decide_eq_false_iff_not] at hb
                  refine AW.region (cfg := cfg) ?_
                  iterate 2 (apply aops_step (by decide) rfl; · (intro K hK; simp (disch := first | omega | decide) only [go_sem, f0, f5, f7, f8, f9, f10, f11, f14, o5, o11, p0, p1, p2, p3, p4, ne_eq, not_true_eq_false, decide_false, Bool.false_or, hd, p6, cnt, List.getElem_range, add_ite]; exact hK _))
                  apply aops_step (by decide) rfl
                  · intro K hK
                    simp (disch := first | omega | decide) only [go_sem, f0, f5, f7, f8, f9, f10, f11, f14, o5, o11, p0, p1, p2, p3, p4, ne_eq, not_true_eq_false, decide_false, Bool.false_or, hd, p6, act_indexAddr_s u44 ti3, List.map, cnt, List.getElem_range, add_ite]
                    first | rw [mwp_aIndex_own (by simp (disch := first | omega | decide) only [go_sem, f0, f5, f7, f8, f9, f10, f11, f14, o5, o11, p0, p1, p2, p3, p4, ne_eq, not_true_eq_false, decide_false, Bool.false_or, hd, p6, cnt, List.getElem_range, add_ite]; rfl) (by first | omega | (simp; omega)) (by first | omega | (simp; omega))] | skip
                    exact hK _
                  apply aops_step (by decide) rfl
                  · intro K hK
                    simp (disch := first | omega | decide) only [go_sem, f0, f5, f7, f8, f9, f10, f11, f14, o5, o11, p0, p1, p2, p3, p4, ne_eq, not_true_eq_false, decide_false, Bool.false_or, hd, p6, act_load_t ti3, List.map, cnt, List.getElem_range, add_ite]
                    first | rw [mwp_load_bs (by simp (disch := first | omega | decide) only [go_sem, f0, f5, f7, f8, f9, f10, f11, f14, o5, o11, p0, p1, p2, p3, p4, ne_eq, not_true_eq_false, decide_false, Bool.false_or, hd, p6, cnt, List.getElem_range, add_ite]; rfl) (by simp)] | rw [mwp_load_b1 (by simp (disch := first | omega | decide) only [go_sem, f0, f5, f7, f8, f9, f10, f11, f14, o5, o11, p0, p1, p2, p3, p4, ne_eq, not_true_eq_false, decide_false, Bool.false_or, hd, p6, cnt, List.getElem_range, add_ite]; rfl) (by rfl)] | rw [mwp_aLoad_map (by simp (disch := first | omega | decide) only [go_sem, f0, f5, f7, f8, f9, f10, f11, f14, o5, o11, p0, p1, p2, p3, p4, ne_eq, not_true_eq_false, decide_false, Bool.false_or, hd, p6, cnt, List.getElem_range, add_ite]; rfl) (by first | omega | (simp; omega)) (fun _ => rfl)] | rw [mwp_aLoad_e1 (by simp (disch := first | omega | decide) only [go_sem, f0, f5, f7, f8, f9, f10, f11, f14, o5, o11, p0, p1, p2, p3, p4, ne_eq, not_true_eq_false, decide_false, Bool.false_or, hd, p6, cnt, List.getElem_range, add_ite]; rfl) (by simp) rfl] | skip
                    exact hK _
                  iterate 1 (apply aops_step (by decide) rfl; · (intro K hK; simp (disch := first | omega | decide) only [go_sem, f0, f5, f7, f8, f9, f10, f11, f14, o5, o11, p0, p1, p2, p3, p4, ne_eq, not_true_eq_false, decide_false, Bool.false_or, hd, p6, cnt, List.getElem_range, add_ite]; exact hK _))
                  apply aops_step (by decide) rfl
                  · intro K hK
                    simp (disch := first | omega | decide) only [go_sem, f0, f5, f7, f8, f9, f10, f11, f14, o5, o11, p0, p1, p2, p3, p4, ne_eq, not_true_eq_false, decide_false, Bool.false_or, hd, p6, act_indexAddr_s u44 ti3, List.map, cnt, List.getElem_range, add_ite]
                    first | rw [mwp_aIndex_own (by simp (disch := first | omega | decide) only [go_sem, f0, f5, f7, f8, f9, f10, f11, f14, o5, o11, p0, p1, p2, p3, p4, ne_eq, not_true_eq_false, decide_false, Bool.false_or, hd, p6, cnt, List.getElem_range, add_ite]; rfl) (by first | omega | (simp; omega)) (by first | omega | (simp; omega))] | skip
                    exact hK _
                  apply aops_step0 rfl
                  · intro K hK
                    simp (disch := first | omega | decide) only [go_sem, f0, f5, f7, f8, f9, f10, f11, f14, o5, o11, p0, p1, p2, p3, p4, ne_eq, not_true_eq_false, decide_false, Bool.false_or, hd, p6, act_store_t ti3, List.map, cnt, List.getElem_range, add_ite]
                    first | rw [mwp_store_c (by simp (disch := first | omega | decide) only [go_sem, f0, f5, f7, f8, f9, f10, f11, f14, o5, o11, p0, p1, p2, p3, p4, ne_eq, not_true_eq_false, decide_false, Bool.false_or, hd, p6, cnt, List.getElem_range, add_ite]; rfl) (by rfl) (by rfl) (by rfl) (by simp)] | rw [mwp_aStore_map (by simp (disch := first | omega | decide) only [go_sem, f0, f5, f7, f8, f9, f10, f11, f14, o5, o11, p0, p1, p2, p3, p4, ne_eq, not_true_eq_false, decide_false, Bool.false_or, hd, p6, cnt, List.getElem_range, add_ite]; rfl) (by first | omega | (simp; omega)) (fun _ => rfl) rfl rfl (fun _ => rfl)] | skip
                    try simp only [setAt, cellsL, cellsOf_agg, cellsOf_base, List.map_cons, List.map_nil, List.set_cons_zero, List.set_cons_succ, Nat.reduceAdd, Nat.zero_add]
                    exact hK _
                  refine aops_nil ?_
                  refine AW.region (cfg := cfg) ?_
                  iterate 3 (apply aops_step (by decide) rfl; · (intro K hK; simp (disch := first | omega | decide) only [go_sem, f0, f5, f7, f8, f9, f10, f11, f14, o5, o11, p0, p1, p2, p3, p4, ne_eq, not_true_eq_false, decide_false, Bool.false_or, hd, p6, cnt, List.getElem_range, add_ite]; exact hK _))
                  refine aops_nil ?_
                  refine ⟨_, _, rfl, ?_, ?_, ?_, ?_, ?_, ?_, ?_, ?_, ?_, ?_, hG⟩ <;> try simp (disch := first | omega | decide) only [go_sem, f0, f5, f7, f8, f9, f10, f11, f14, o5, o11, p0, p1, p2, p3, p4, ne_eq, not_true_eq_false, decide_false, Bool.false_or, hd, p6, cnt, List.getElem_range, add_ite]
                  all_goals first | rfl | (simp; done) | (simp; omega) | (exfalso; omega) | (refine congrArg (Obj.arr false 1) (cnt_same ?_) <;> first | (intro j hj; rw [Bool.eq_iff_iff]; simp <;> omega) | (simp <;> omega)) | (refine congrArg (Obj.arr false 1) (cnt_up ?_ ?_) <;> first | (intro j hj; rw [Bool.eq_iff_iff]; simp <;> omega) | (simp <;> omega)) | (refine congrArg (Obj.arr false 1) (cnt_none rfl ?_); intro j hj; simp <;> omega) | (exfalso; simp at hb; omega) | trace_state
                case hf =>
                  intro hb
                  try simp only [Bool.or_eq_true, Bool.and_eq_true, Bool.or_eq_false_iff, Bool.and_eq_false_iff, decide_eq_true_eq, decide_eq_false_iff_not] at hb
                  refine AW.skip ?_
                  refine AW.region (cfg := cfg) ?_
                  iterate 3 (apply aops_step (by decide) rfl; · (intro K hK; simp (disch := first | omega | decide) only [go_sem, f0, f5, f7, f8, f9, f10, f11, f14, o5, o11, p0, p1, p2, p3, p4, ne_eq, not_true_eq_false, decide_false, Bool.false_or, hd, p6, cnt, List.getElem_range, add_ite]; exact hK _))
                  refine aops_nil ?_
                  refine ⟨_, _, rfl, ?_, ?_, ?_, ?_, ?_, ?_, ?_, ?_, ?_, ?_, hG⟩ <;> try simp (disch := first | omega | decide) only [go_sem, f0, f5, f7, f8, f9, f10, f11, f14, o5, o11, p0, p1, p2, p3, p4, ne_eq, not_true_eq_false, decide_false, Bool.false_or, hd, p6, cnt, List.getElem_range, add_ite]
                  all_goals first | rfl | (simp; done) | (simp; omega) | (exfalso; omega) | (refine congrArg (Obj.arr false 1) (cnt_same ?_) <;> first | (intro j hj; rw [Bool.eq_iff_iff]; simp <;> omega) | (simp <;> omega)) | (refine congrArg (Obj.arr false 1) (cnt_up ?_ ?_) <;> first | (intro j hj; rw [Bool.eq_iff_iff]; simp <;> omega) | (simp <;> omega)) | (refine congrArg (Obj.arr false 1) (cnt_none rfl ?_); intro j hj; simp <;> omega) | (exfalso; simp at hb; omega) | trace_state
            · have hd := decide_eq_false hsp
              have p6 := p5 k (by omega)
              rw [if_neg hsp] at p6
              refine AW.region (cfg := cfg) ?_
              apply aops_step (by decide) rfl
              · intro K hK
                simp (disch := first | omega | decide) only [go_sem, f0, f5, f7, f8, f9, f10, f11, f14, o5, o11, p0, p1, p2, p3, p4, ne_eq, not_true_eq_false, decide_false, Bool.false_or, hd, p6, act_load_t ti33, List.map, cnt, List.getElem_range, add_ite]
                first | rw [mwp_load_bs (by simp (disch := first | omega | decide) only [go_sem, f0, f5, f7, f8, f9, f10, f11, f14, o5, o11, p0, p1, p2, p3, p4, ne_eq, not_true_eq_false, decide_false, Bool.false_or, hd, p6, cnt, List.getElem_range, add_ite]; rfl) (by simp)] | rw [mwp_load_b1 (by simp (disch := first | omega | decide) only [go_sem, f0, f5, f7, f8, f9, f10, f11, f14, o5, o11, p0, p1, p2, p3, p4, ne_eq, not_true_eq_false, decide_false, Bool.false_or, hd, p6, cnt, List.getElem_range, add_ite]; rfl) (by rfl)] | rw [mwp_aLoad_map (by simp (disch := first | omega | decide) only [go_sem, f0, f5, f7, f8, f9, f10, f11, f14, o5, o11, p0, p1, p2, p3, p4, ne_eq, not_true_eq_false, decide_false, Bool.false_or, hd, p6, cnt, List.getElem_range, add_ite]; rfl) (by first | omega | (simp; omega)) (fun _ => rfl)] | rw [mwp_aLoad_e1 (by simp (disch := first | omega | decide) only [go_sem, f0, f5, f7, f8, f9, f10, f11, f14, o5, o11, p0, p1, p2, p3, p4, ne_eq, not_true_eq_false, decide_false, Bool.false_or, hd, p6, cnt, List.getElem_range, add_ite]; rfl) (by simp) rfl] | skip
                exact hK _
              iterate 1 (apply aops_step (by decide) rfl; · (intro K hK; simp (disch := first | omega | decide) only [go_sem, f0, f5, f7, f8, f9, f10, f11, f14, o5, o11, p0, p1, p2, p3, p4, ne_eq, not_true_eq_false, decide_false, Bool.false_or, hd, p6, cnt, List.getElem_range, add_ite]; exact hK _))
              apply aops_step (by decide) rfl
              · intro K hK
                simp (disch := first | omega | decide) only [go_sem, f0, f5, f7, f8, f9, f10, f11, f14, o5, o11, p0, p1, p2, p3, p4, ne_eq, not_true_eq_false, decide_false, Bool.false_or, hd, p6, act_call, List.map, cnt, List.getElem_range, add_ite]
                apply mwp_call_s rfl rfl rfl
                · intro Q hQ
                  simp (disch := first | omega | decide) only [go_sem, f0, f5, f7, f8, f9, f10, f11, f14, o5, o11, p0, p1, p2, p3, p4, ne_eq, not_true_eq_false, decide_false, Bool.false_or, hd, p6, peekL, cnt, List.getElem_range, add_ite]
                  first | exact hQ | (rw [peek_own (by simp (disch := first | omega | decide) only [go_sem, f0, f5, f7, f8, f9, f10, f11, f14, o5, o11, p0, p1, p2, p3, p4, ne_eq, not_true_eq_false, decide_false, Bool.false_or, hd, p6, peekL, cnt, List.getElem_range, add_ite]; rfl)]; exact hQ) | (rw [peek_own (by simp (disch := first | omega | decide) only [go_sem, f0, f5, f7, f8, f9, f10, f11, f14, o5, o11, p0, p1, p2, p3, p4, ne_eq, not_true_eq_false, decide_false, Bool.false_or, hd, p6, peekL, cnt, List.getElem_range, add_ite]; rfl)]; simp (disch := first | omega | decide) only [go_sem, f0, f5, f7, f8, f9, f10, f11, f14, o5, o11, p0, p1, p2, p3, p4, ne_eq, not_true_eq_false, decide_false, Bool.false_or, hd, p6, peekL, cnt, List.getElem_range, add_ite]; rw [peek_own (by simp (disch := first | omega | decide) only [go_sem, f0, f5, f7, f8, f9, f10, f11, f14, o5, o11, p0, p1, p2, p3, p4, ne_eq, not_true_eq_false, decide_false, Bool.false_or, hd, p6, peekL, cnt, List.getElem_range, add_ite]; rfl)]; exact hQ) | (rw [peek_own (by simp (disch := first | omega | decide) only [go_sem, f0, f5, f7, f8, f9, f10, f11, f14, o5, o11, p0, p1, p2, p3, p4, ne_eq, not_true_eq_false, decide_false, Bool.false_or, hd, p6, peekL, cnt, List.getElem_range, add_ite]; rfl)]; simp (disch := first | omega | decide) only [go_sem, f0, f5, f7, f8, f9, f10, f11, f14, o5, o11, p0, p1, p2, p3, p4, ne_eq, not_true_eq_false, decide_false, Bool.false_or, hd, p6, peekL, cnt, List.getElem_range, add_ite]; exact hQ)
                · exact good_At _ _ _ _
                · simp [-List.map_take, -List.map_drop, noPtrL, noPtr, noPtrL_bsl, noPtrL_map, sub]
                · rfl
                · exact hK _
              iterate 1 (apply aops_step (by decide) rfl; · (intro K hK; simp (disch := first | omega | decide) only [go_sem, f0, f5, f7, f8, f9, f10, f11, f14, o5, o11, p0, p1, p2, p3, p4, ne_eq, not_true_eq_false, decide_false, Bool.false_or, hd, p6, cnt, List.getElem_range, add_ite]; exact hK _))
              refine aops_nil ?_
              refine AW.seq ?_
              refine AW.seq ?_
              refine AW.region (cfg := cfg) ?_
              iterate 3 (apply aops_step (by decide) rfl; · (intro K hK; simp (disch := first | omega | decide) only [go_sem, f0, f5, f7, f8, f9, f10, f11, f14, o5, o11, p0, p1, p2, p3, p4, ne_eq, not_true_eq_false, decide_false, Bool.false_or, hd, p6, cnt, List.getElem_range, add_ite]; exact hK _))
              refine aops_nil ?_
              apply AW.cond
              · simp (disch := first | omega | decide) only [go_sem, f0, f5, f7, f8, f9, f10, f11, f14, o5, o11, p0, p1, p2, p3, p4, ne_eq, not_true_eq_false, decide_false, Bool.false_or, hd, p6, cnt, List.getElem_range, add_ite]; rfl
              case ht =>
                intro hb
                try simp only [Bool.or_eq_true, Bool.and_eq_true, Bool.or_eq_false_iff, Bool.and_eq_false_iff, decide_eq_true_eq, decide_eq_false_iff_not] at hb
                refine AW.seq ?_
                refine AW.region (cfg := cfg) ?_
                iterate 1 (apply aops_step (by decide) rfl; · (intro K hK; simp (disch := first | omega | decide) only [go_sem, f0, f5, f7, f8, f9, f10, f11, f14, o5, o11, p0, p1, p2, p3, p4, ne_eq, not_true_eq_false, decide_false, Bool.false_or, hd, p6, cnt, List.getElem_range, add_ite]; exact hK _))
                refine aops_nil ?_
                refine AW.ret ?_
                refine ⟨.inr rfl, ?_⟩
                refine leaves_tmp1 4 rfl ?_ (by first | rfl | exact hG)
                simp (disch := first | omega | decide) only [go_sem, f0, f5, f7, f8, f9, f10, f11, f14, o5, o11, p0, p1, p2, p3, p4, ne_eq, not_true_eq_false, decide_false, Bool.false_or, hd, p6, cnt, List.getElem_range, add_ite]
                all_goals first | done | (exfalso; omega) | (exfalso; simp at hb; omega) | trace_state
              case hf =>
                intro hb
                try simp only [Bool.or_eq_true, Bool.and_eq_true, Bool.or_eq_false_iff, Bool.and_eq_false_iff, decide_eq_true_eq, decide_eq_false_iff_not] at hb
                refine AW.skip ?_
                refine AW.seq ?_
                refine AW.region (cfg := cfg) ?_
                iterate 2 (apply aops_step (by decide) rfl; · (intro K hK; simp (disch := first | omega | decide) only [go_sem, f0, f5, f7, f8, f9, f10, f11, f14, o5, o11, p0, p1, p2, p3, p4, ne_eq, not_true_eq_false, decide_false, Bool.false_or, hd, p6, cnt, List.getElem_range, add_ite]; exact hK _))
                refine aops_nil ?_
                apply AW.cond
                · simp (disch := first | omega | decide) only [go_sem, f0, f5, f7, f8, f9, f10, f11, f14, o5, o11, p0, p1, p2, p3, p4, ne_eq, not_true_eq_false, decide_false, Bool.false_or, hd, p6, cnt, List.getElem_range, add_ite]; rfl
                case ht =>
                  intro hb
                  try simp only [Bool.or_eq_true, Bool.and_eq_true, Bool.or_eq_false_iff, Bool.and_eq_false_iff, decide_eq_true_eq, decide_eq_false_iff_not] at hb
                  refine AW.region (cfg := cfg) ?_
                  iterate 2 (apply aops_step (by decide) rfl; · (intro K hK; simp (disch := first | omega | decide) only [go_sem, f0, f5, f7, f8, f9, f10, f11, f14, o5, o11, p0, p1, p2, p3, p4, ne_eq, not_true_eq_false, decide_false, Bool.false_or, hd, p6, cnt, List.getElem_range, add_ite]; exact hK _))
                  apply aops_step (by decide) rfl
                  · intro K hK
                    simp (disch := first | omega | decide) only [go_sem, f0, f5, f7, f8, f9, f10, f11, f14, o5, o11, p0, p1, p2, p3, p4, ne_eq, not_true_eq_false, decide_false, Bool.false_or, hd, p6, act_indexAddr_s u44 ti3, List.map, cnt, List.getElem_range, add_ite]
                    first | rw [mwp_aIndex_own (by simp (disch := first | omega | decide) only [go_sem, f0, f5, f7, f8, f9, f10, f11, f14, o5, o11, p0, p1, p2, p3, p4, ne_eq, not_true_eq_false, decide_false, Bool.false_or, hd, p6, cnt, List.getElem_range, add_ite]; rfl) (by first | omega | (simp; omega)) (by first | omega | (simp; omega))] | skip
                    exact hK _
                  apply aops_step (by decide) rfl
                  · intro K hK
                    simp (disch := first | omega | decide) only [go_sem, f0, f5, f7, f8, f9, f10, f11, f14, o5, o11, p0, p1, p2, p3, p4, ne_eq, not_true_eq_false, decide_false, Bool.false_or, hd, p6, act_load_t ti3, List.map, cnt, List.getElem_range, add_ite]
                    first | rw [mwp_load_bs (by simp (disch := first | omega | decide) only [go_sem, f0, f5, f7, f8, f9, f10, f11, f14, o5, o11, p0, p1, p2, p3, p4, ne_eq, not_true_eq_false, decide_false, Bool.false_or, hd, p6, cnt, List.getElem_range, add_ite]; rfl) (by simp)] | rw [mwp_load_b1 (by simp (disch := first | omega | decide) only [go_sem, f0, f5, f7, f8, f9, f10, f11, f14, o5, o11, p0, p1, p2, p3, p4, ne_eq, not_true_eq_false, decide_false, Bool.false_or, hd, p6, cnt, List.getElem_range, add_ite]; rfl) (by rfl)] | rw [mwp_aLoad_map (by simp (disch := first | omega | decide) only [go_sem, f0, f5, f7, f8, f9, f10, f11, f14, o5, o11, p0, p1, p2, p3, p4, ne_eq, not_true_eq_false, decide_false, Bool.false_or, hd, p6, cnt, List.getElem_range, add_ite]; rfl) (by first | omega | (simp; omega)) (fun _ => rfl)] | rw [mwp_aLoad_e1 (by simp (disch := first | omega | decide) only [go_sem, f0, f5, f7, f8, f9, f10, f11, f14, o5, o11, p0, p1, p2, p3, p4, ne_eq, not_true_eq_false, decide_false, Bool.false_or, hd, p6, cnt, List.getElem_range, add_ite]; rfl) (by simp) rfl] | skip
                    exact hK _
                  iterate 1 (apply aops_step (by decide) rfl; · (intro K hK; simp (disch := first | omega | decide) only [go_sem, f0, f5, f7, f8, f9, f10, f11, f14, o5, o11, p0, p1, p2, p3, p4, ne_eq, not_true_eq_false, decide_false, Bool.false_or, hd, p6, cnt, List.getElem_range, add_ite]; exact hK _))
                  apply aops_step (by decide) rfl
                  · intro K hK
                    simp (disch := first | omega | decide) only [go_sem, f0, f5, f7, f8, f9, f10, f11, f14, o5, o11, p0, p1, p2, p3, p4, ne_eq, not_true_eq_false, decide_false, Bool.false_or, hd, p6, act_indexAddr_s u44 ti3, List.map, cnt, List.getElem_range, add_ite]
                    first | rw [mwp_aIndex_own (by simp (disch := first | omega | decide) only [go_sem, f0, f5, f7, f8, f9, f10, f11, f14, o5, o11, p0, p1, p2, p3, p4, ne_eq, not_true_eq_false, decide_false, Bool.false_or, hd, p6, cnt, List.getElem_range, add_ite]; rfl) (by first | omega | (simp; omega)) (by first | omega | (simp; omega))] | skip
                    exact hK _
                  apply aops_step0 rfl
                  · intro K hK
                    simp (disch := first | omega | decide) only [go_sem, f0, f5, f7, f8, f9, f10, f11, f14, o5, o11, p0, p1, p2, p3, p4, ne_eq, not_true_eq_false, decide_false, Bool.false_or, hd, p6, act_store_t ti3, List.map, cnt, List.getElem_range, add_ite]
                    first | rw [mwp_store_c (by simp (disch := first | omega | decide) only [go_sem, f0, f5, f7, f8, f9, f10, f11, f14, o5, o11, p0, p1, p2, p3, p4, ne_eq, not_true_eq_false, decide_false, Bool.false_or, hd, p6, cnt, List.getElem_range, add_ite]; rfl) (by rfl) (by rfl) (by rfl) (by simp)] | rw [mwp_aStore_map (by simp (disch := first | omega | decide) only [go_sem, f0, f5, f7, f8, f9, f10, f11, f14, o5, o11, p0, p1, p2, p3, p4, ne_eq, not_true_eq_false, decide_false, Bool.false_or, hd, p6, cnt, List.getElem_range, add_ite]; rfl) (by first | omega | (simp; omega)) (fun _ => rfl) rfl rfl (fun _ => rfl)] | skip
                    try simp only [setAt, cellsL, cellsOf_agg, cellsOf_base, List.map_cons, List.map_nil, List.set_cons_zero, List.set_cons_succ, Nat.reduceAdd, Nat.zero_add]
                    exact hK _
                  refine aops_nil ?_
                  refine AW.region (cfg := cfg) ?_
                  iterate 3 (apply aops_step (by decide) rfl; · (intro K hK; simp (disch := first | omega | decide) only [go_sem, f0, f5, f7, f8, f9, f10, f11, f14, o5, o11, p0, p1, p2, p3, p4, ne_eq, not_true_eq_false, decide_false, Bool.false_or, hd, p6, cnt, List.getElem_range, add_ite]; exact hK _))
                  refine aops_nil ?_
                  refine ⟨_, _, rfl, ?_, ?_, ?_, ?_, ?_, ?_, ?_, ?_, ?_, ?_, hG⟩ <;> try simp (disch := first | omega | decide) only [go_sem, f0, f5, f7, f8, f9, f10, f11, f14, o5, o11, p0, p1, p2, p3, p4, ne_eq, not_true_eq_false, decide_false, Bool.false_or, hd, p6, cnt, List.getElem_range, add_ite]
                  all_goals first | rfl | (simp; done) | (simp; omega) | (exfalso; omega) | (refine congrArg (Obj.arr false 1) (cnt_same ?_) <;> first | (intro j hj; rw [Bool.eq_iff_iff]; simp <;> omega) | (simp <;> omega)) | (refine congrArg (Obj.arr false 1) (cnt_up ?_ ?_) <;> first | (intro j hj; rw [Bool.eq_iff_iff]; simp <;> omega) | (simp <;> omega)) | (refine congrArg (Obj.arr false 1) (cnt_none rfl ?_); intro j hj; simp <;> omega) | (exfalso; simp at hb; omega) | trace_state
                case hf =>
                  intro hb
                  try simp only [Bool.or_eq_true, Bool.and_eq_true, Bool.or_eq_false_iff, Bool.and_eq_false_iff, decide_eq_true_eq, decide_eq_false_iff_not] at hb
                  refine AW.skip ?_
                  refine AW.region (cfg := cfg) ?_
                  iterate 3 (apply aops_step (by decide) rfl; · (intro K hK; simp (disch := first | omega | decide) only [go_sem, f0, f5, f7, f8, f9, f10, f11, f14, o5, o11, p0, p1, p2, p3, p4, ne_eq, not_true_eq_false, decide_false, Bool.false_or, hd, p6, cnt, List.getElem_range, add_ite]; exact hK _))
                  refine aops_nil ?_
                  refine ⟨_, _, rfl, ?_, ?_, ?_, ?_, ?_, ?_, ?_, ?_, ?_, ?_, hG⟩ <;> try simp (disch := first | omega | decide) only [go_sem, f0, f5, f7, f8, f9, f10, f11, f14, o5, o11, p0, p1, p2, p3, p4, ne_eq, not_true_eq_false, decide_false, Bool.false_or, hd, p6, cnt, List.getElem_range, add_ite]
                  all_goals first | rfl | (simp; done) | (simp; omega) | (exfalso; omega) | (refine congrArg (Obj.arr false 1) (cnt_same ?_) <;> first | (intro j hj; rw [Bool.eq_iff_iff]; simp <;> omega) | (simp <;> omega)) | (refine congrArg (Obj.arr false 1) (cnt_up ?_ ?_) <;> first | (intro j hj; rw [Bool.eq_iff_iff]; simp <;> omega) | (simp <;> omega)) | (refine congrArg (Obj.arr false 1) (cnt_none rfl ?_); intro j hj; simp <;> omega) | (exfalso; simp at hb; omega) | trace_state
          · clear f0 f5 f7 f8 f9 f10 f11 f13 o5 o11 hG
            rintro σ ⟨s, m, rfl, f0, f5, o5, f7, f8, f9, f10, f11, o11, f14, hG⟩
            obtain ⟨g5, o5⟩ : ∃ g, m.objs (.tmp 5 0) = (g, .box [.v (i64 (pS (N : Int))), .v (i64 (pF (N : Int))), .v (i64 (pL (N : Int)))]) := ⟨_, Prod.ext rfl o5⟩
            rw [o5] at f5
            obtain ⟨g11, o11⟩ : ∃ g, m.objs (.var 11) = (g, .arr false 1 ((List.range N).map (cnt fun j => decide (j < 2 * S + N)))) := ⟨_, Prod.ext rfl o11⟩
            rw [o11] at f11
            refine AW.seq ?_
            refine AW.seq ?_
            refine AW.region (cfg := cfg) ?_
            iterate 3 (apply aops_step (by decide) rfl; · (intro K hK; simp (disch := first | omega | decide) only [go_sem, f0, f5, f7, f8, f9, f10, f11, f14, o5, o11, p0, p1, p2, p3, p4, ne_eq, not_true_eq_false, decide_false, Bool.false_or, cnt, List.getElem_range, add_ite]; exact hK _))
            refine aops_nil ?_
            apply AW.cond
            · simp (disch := first | omega | decide) only [go_sem, f0, f5, f7, f8, f9, f10, f11, f14, o5, o11, p0, p1, p2, p3, p4, ne_eq, not_true_eq_false, decide_false, Bool.false_or, cnt, List.getElem_range, add_ite]; rfl
            case ht => intro hb; first | (simp at hb; done) | (simp at hb; omega)
            case hf =>
            intro hb
            refine AW.exit ?_
            refine AW.seq ?_
            refine AW.seq ?_
            refine AW.region (cfg := cfg) ?_
            iterate 1 (apply aops_step (by decide) rfl; · (intro K hK; simp (disch := first | omega | decide) only [go_sem, f0, f5, f7, f8, f9, f10, f11, f14, o5, o11, p0, p1, p2, p3, p4, ne_eq, not_true_eq_false, decide_false, Bool.false_or, cnt, List.getElem_range, add_ite]; exact hK _))
            refine aops_nil ?_
            refine AW.block ?_
            refine AW.forN (fun k σ => ∃ s m, σ = ⟨140, s, m⟩ ∧ s 0 = .v (i64 (N : Int)) ∧ s 5 = .lptr (.tmp 5 0) (m.objs (.tmp 5 0)).1 0 ∧ (m.objs (.tmp 5 0)).2 = .box [.v (i64 (pS (N : Int))), .v (i64 (pF (N : Int))), .v (i64 (pL (N : Int)))] ∧ s 7 = .v (i64 (a : Int)) ∧ s 8 = .v (i64 ((a : Int) + (S : Int))) ∧ s 9 = .v (i64 (c : Int)) ∧ s 10 = .v (i64 ((c : Int) + (S : Int))) ∧ s 11 = .own (.var 11) (m.objs (.var 11)).1 0 (N) ∧ (m.objs (.var 11)).2 = .arr false 1 ((List.range N).map (cnt fun j => decide (j < 2 * S + N))) ∧ s 16 = .v (i64 (k : Int)) ∧ m.G = []) (N) ?_ ?_ ?_
            · refine ⟨_, _, rfl, ?_, ?_, ?_, ?_, ?_, ?_, ?_, ?_, ?_, ?_, hG⟩ <;> try simp (disch := first | omega | decide) only [go_sem, f0, f5, f7, f8, f9, f10, f11, f14, o5, o11, p0, p1, p2, p3, p4, ne_eq, not_true_eq_false, decide_false, Bool.false_or, cnt, List.getElem_range, add_ite]
              all_goals first | rfl | (simp; done) | (simp; omega) | (exfalso; omega) | (refine congrArg (Obj.arr false 1) (cnt_same ?_) <;> first | (intro j hj; rw [Bool.eq_iff_iff]; simp <;> omega) | (simp <;> omega)) | (refine congrArg (Obj.arr false 1) (cnt_up ?_ ?_) <;> first | (intro j hj; rw [Bool.eq_iff_iff]; simp <;> omega) | (simp <;> omega)) | (refine congrArg (Obj.arr false 1) (cnt_none rfl ?_); intro j hj; simp <;> omega) | (exfalso; simp at hb; omega) | trace_state
            · clear f0 f5 f7 f8 f9 f10 f11 f14 o5 o11 hG
              rintro k σ hk ⟨s, m, rfl, f0, f5, o5, f7, f8, f9, f10, f11, o11, f16, hG⟩
              obtain ⟨g5, o5⟩ : ∃ g, m.objs (.tmp 5 0) = (g, .box [.v (i64 (pS (N : Int))), .v (i64 (pF (N : Int))), .v (i64 (pL (N : Int)))]) := ⟨_, Prod.ext rfl o5⟩
              rw [o5] at f5
              obtain ⟨g11, o11⟩ : ∃ g, m.objs (.var 11) = (g, .arr false 1 ((List.range N).map (cnt fun j => decide (j < 2 * S + N)))) := ⟨_, Prod.ext rfl o11⟩
              rw [o11] at f11
              refine AW.seq ?_
              refine AW.seq ?_
              refine AW.region (cfg := cfg) ?_
              iterate 3 (apply aops_step (by decide) rfl; · (intro K hK; simp (disch := first | omega | decide) only [go_sem, f0, f5, f7, f8, f9, f10, f11, f16, o5, o11, p0, p1, p2, p3, p4, ne_eq, not_true_eq_false, decide_false, Bool.false_or, cnt, List.getElem_range, add_ite]; exact hK _))
              refine aops_nil ?_
              apply AW.cond
              · simp (disch := first | omega | decide) only [go_sem, f0, f5, f7, f8, f9, f10, f11, f16, o5, o11, p0, p1, p2, p3, p4, ne_eq, not_true_eq_false, decide_false, Bool.false_or, cnt, List.getElem_range, add_ite]; rfl
              case hf => intro hb; first | (simp at hb; done) | (simp at hb; omega)
              case ht =>
              intro hb
              refine AW.skip ?_
              refine AW.seq ?_
              refine AW.block ?_
              refine AW.seq ?_
              refine AW.region (cfg := cfg) ?_
              iterate 2 (apply aops_step (by decide) rfl; · (intro K hK; simp (disch := first | omega | decide) only [go_sem, f0, f5, f7, f8, f9, f10, f11, f16, o5, o11, p0, p1, p2, p3, p4, ne_eq, not_true_eq_false, decide_false, Bool.false_or, cnt, List.getElem_range, add_ite]; exact hK _))
              apply aops_step (by decide) rfl
              · intro K hK
                simp (disch := first | omega | decide) only [go_sem, f0, f5, f7, f8, f9, f10, f11, f16, o5, o11, p0, p1, p2, p3, p4, ne_eq, not_true_eq_false, decide_false, Bool.false_or, act_indexAddr_s u44 ti3, List.map, cnt, List.getElem_range, add_ite]
                first | rw [mwp_aIndex_own (by simp (disch := first | omega | decide) only [go_sem, f0, f5, f7, f8, f9, f10, f11, f16, o5, o11, p0, p1, p2, p3, p4, ne_eq, not_true_eq_false, decide_false, Bool.false_or, cnt, List.getElem_range, add_ite]; rfl) (by first | omega | (simp; omega)) (by first | omega | (simp; omega))] | skip
                exact hK _
              apply aops_step (by decide) rfl
              · intro K hK
                simp (disch := first | omega | decide) only [go_sem, f0, f5, f7, f8, f9, f10, f11, f16, o5, o11, p0, p1, p2, p3, p4, ne_eq, not_true_eq_false, decide_false, Bool.false_or, act_load_t ti3, List.map, cnt, List.getElem_range, add_ite]
                first | rw [mwp_load_bs (by simp (disch := first | omega | decide) only [go_sem, f0, f5, f7, f8, f9, f10, f11, f16, o5, o11, p0, p1, p2, p3, p4, ne_eq, not_true_eq_false, decide_false, Bool.false_or, cnt, List.getElem_range, add_ite]; rfl) (by simp)] | rw [mwp_load_b1 (by simp (disch := first | omega | decide) only [go_sem, f0, f5, f7, f8, f9, f10, f11, f16, o5, o11, p0, p1, p2, p3, p4, ne_eq, not_true_eq_false, decide_false, Bool.false_or, cnt, List.getElem_range, add_ite]; rfl) (by rfl)] | rw [mwp_aLoad_map (by simp (disch := first | omega | decide) only [go_sem, f0, f5, f7, f8, f9, f10, f11, f16, o5, o11, p0, p1, p2, p3, p4, ne_eq, not_true_eq_false, decide_false, Bool.false_or, cnt, List.getElem_range, add_ite]; rfl) (by first | omega | (simp; omega)) (fun _ => rfl)] | rw [mwp_aLoad_e1 (by simp (disch := first | omega | decide) only [go_sem, f0, f5, f7, f8, f9, f10, f11, f16, o5, o11, p0, p1, p2, p3, p4, ne_eq, not_true_eq_false, decide_false, Bool.false_or, cnt, List.getElem_range, add_ite]; rfl) (by simp) rfl] | skip
                exact hK _
              iterate 1 (apply aops_step (by decide) rfl; · (intro K hK; simp (disch := first | omega | decide) only [go_sem, f0, f5, f7, f8, f9, f10, f11, f16, o5, o11, p0, p1, p2, p3, p4, ne_eq, not_true_eq_false, decide_false, Bool.false_or, cnt, List.getElem_range, add_ite]; exact hK _))
              refine aops_nil ?_
              apply AW.cond
              · simp (disch := first | omega | decide) only [go_sem, f0, f5, f7, f8, f9, f10, f11, f16, o5, o11, p0, p1, p2, p3, p4, ne_eq, not_true_eq_false, decide_false, Bool.false_or, cnt, List.getElem_range, add_ite]; rfl
              case ht =>
                intro hb
                try simp only [Bool.or_eq_true, Bool.and_eq_true, Bool.or_eq_false_iff, Bool.and_eq_false_iff, decide_eq_true_eq, decide_eq_false_iff_not] at hb
                refine AW.seq ?_
                refine AW.region (cfg := cfg) ?_
                iterate 1 (apply aops_step (by decide) rfl; · (intro K hK; simp (disch := first | omega | decide) only [go_sem, f0, f5, f7, f8, f9, f10, f11, f16, o5, o11, p0, p1, p2, p3, p4, ne_eq, not_true_eq_false, decide_false, Bool.false_or, cnt, List.getElem_range, add_ite]; exact hK _))
                refine aops_nil ?_
                refine AW.ret ?_
                refine ⟨.inr rfl, ?_⟩
                refine leaves_tmp1 4 rfl ?_ (by first | rfl | exact hG)
                simp (disch := first | omega | decide) only [go_sem, f0, f5, f7, f8, f9, f10, f11, f16, o5, o11, p0, p1, p2, p3, p4, ne_eq, not_true_eq_false, decide_false, Bool.false_or, cnt, List.getElem_range, add_ite]
                all_goals first | done | (exfalso; omega) | (exfalso; simp at hb; omega) | trace_state
              case hf =>
                intro hb
                try simp only [Bool.or_eq_true, Bool.and_eq_true, Bool.or_eq_false_iff, Bool.and_eq_false_iff, decide_eq_true_eq, decide_eq_false_iff_not] at hb
                refine AW.skip ?_
                refine AW.region (cfg := cfg) ?_
                iterate 3 (apply aops_step (by decide) rfl; · (intro K hK; simp (disch := first | omega | decide) only [go_sem, f0, f5, f7, f8, f9, f10, f11, f16, o5, o11, p0, p1, p2, p3, p4, ne_eq, not_true_eq_false, decide_false, Bool.false_or, cnt, List.getElem_range, add_ite]; exact hK _))
                refine aops_nil ?_
                refine ⟨_, _, rfl, ?_, ?_, ?_, ?_, ?_, ?_, ?_, ?_, ?_, ?_, hG⟩ <;> try simp (disch := first | omega | decide) only [go_sem, f0, f5, f7, f8, f9, f10, f11, f16, o5, o11, p0, p1, p2, p3, p4, ne_eq, not_true_eq_false, decide_false, Bool.false_or, cnt, List.getElem_range, add_ite]
                all_goals first | rfl | (simp; done) | (simp; omega) | (exfalso; omega) | (refine congrArg (Obj.arr false 1) (cnt_same ?_) <;> first | (intro j hj; rw [Bool.eq_iff_iff]; simp <;> omega) | (simp <;> omega)) | (refine congrArg (Obj.arr false 1) (cnt_up ?_ ?_) <;> first | (intro j hj; rw [Bool.eq_iff_iff]; simp <;> omega) | (simp <;> omega)) | (refine congrArg (Obj.arr false 1) (cnt_none rfl ?_); intro j hj; simp <;> omega) | (exfalso; simp at hb; omega) | trace_state
            · clear f0 f5 f7 f8 f9 f10 f11 f14 o5 o11 hG
              rintro σ ⟨s, m, rfl, f0, f5, o5, f7, f8, f9, f10, f11, o11, f16, hG⟩
              obtain ⟨g5, o5⟩ : ∃ g, m.objs (.tmp 5 0) = (g, .box [.v (i64 (pS (N : Int))), .v (i64 (pF (N : Int))), .v (i64 (pL (N : Int)))]) := ⟨_, Prod.ext rfl o5⟩
              rw [o5] at f5
              obtain ⟨g11, o11⟩ : ∃ g, m.objs (.var 11) = (g, .arr false 1 ((List.range N).map (cnt fun j => decide (j < 2 * S + N)))) := ⟨_, Prod.ext rfl o11⟩
              rw [o11] at f11
              refine AW.seq ?_
              refine AW.seq ?_
              refine AW.region (cfg := cfg) ?_
              iterate 3 (apply aops_step (by decide) rfl; · (intro K hK; simp (disch := first | omega | decide) only [go_sem, f0, f5, f7, f8, f9, f10, f11, f16, o5, o11, p0, p1, p2, p3, p4, ne_eq, not_true_eq_false, decide_false, Bool.false_or, cnt, List.getElem_range, add_ite]; exact hK _))
              refine aops_nil ?_
              apply AW.cond
              · simp (disch := first | omega | decide) only [go_sem, f0, f5, f7, f8, f9, f10, f11, f16, o5, o11, p0, p1, p2, p3, p4, ne_eq, not_true_eq_false, decide_false, Bool.false_or, cnt, List.getElem_range, add_ite]; rfl
              case ht => intro hb; first | (simp at hb; done) | (simp at hb; omega)
              case hf =>
              intro hb
              refine AW.exit ?_
              refine AW.seq ?_
              refine AW.region (cfg := cfg) ?_
              apply aops_step (by decide) rfl
              · intro K hK
                simp (disch := first | omega | decide) only [go_sem, f0, f5, f7, f8, f9, f10, f11, f16, o5, o11, p0, p1, p2, p3, p4, ne_eq, not_true_eq_false, decide_false, Bool.false_or, act_call, List.map, cnt, List.getElem_range, add_ite]
                apply mwp_call_s rfl rfl rfl
                · intro Q hQ
                  simp (disch := first | omega | decide) only [go_sem, f0, f5, f7, f8, f9, f10, f11, f16, o5, o11, p0, p1, p2, p3, p4, ne_eq, not_true_eq_false, decide_false, Bool.false_or, peekL, cnt, List.getElem_range, add_ite]
                  first | exact hQ | (rw [peek_own (by simp (disch := first | omega | decide) only [go_sem, f0, f5, f7, f8, f9, f10, f11, f16, o5, o11, p0, p1, p2, p3, p4, ne_eq, not_true_eq_false, decide_false, Bool.false_or, peekL, cnt, List.getElem_range, add_ite]; rfl)]; exact hQ) | (rw [peek_own (by simp (disch := first | omega | decide) only [go_sem, f0, f5, f7, f8, f9, f10, f11, f16, o5, o11, p0, p1, p2, p3, p4, ne_eq, not_true_eq_false, decide_false, Bool.false_or, peekL, cnt, List.getElem_range, add_ite]; rfl)]; simp (disch := first | omega | decide) only [go_sem, f0, f5, f7, f8, f9, f10, f11, f16, o5, o11, p0, p1, p2, p3, p4, ne_eq, not_true_eq_false, decide_false, Bool.false_or, peekL, cnt, List.getElem_range, add_ite]; rw [peek_own (by simp (disch := first | omega | decide) only [go_sem, f0, f5, f7, f8, f9, f10, f11, f16, o5, o11, p0, p1, p2, p3, p4, ne_eq, not_true_eq_false, decide_false, Bool.false_or, peekL, cnt, List.getElem_range, add_ite]; rfl)]; exact hQ) | (rw [peek_own (by simp (disch := first | omega | decide) only [go_sem, f0, f5, f7, f8, f9, f10, f11, f16, o5, o11, p0, p1, p2, p3, p4, ne_eq, not_true_eq_false, decide_false, Bool.false_or, peekL, cnt, List.getElem_range, add_ite]; rfl)]; simp (disch := first | omega | decide) only [go_sem, f0, f5, f7, f8, f9, f10, f11, f16, o5, o11, p0, p1, p2, p3, p4, ne_eq, not_true_eq_false, decide_false, Bool.false_or, peekL, cnt, List.getElem_range, add_ite]; exact hQ)
                · exact good_awake
                · simp [-List.map_take, -List.map_drop, noPtrL, noPtr, noPtrL_bsl, noPtrL_map, sub]
                · rfl
                · exact hK _
              iterate 1 (apply aops_step (by decide) rfl; · (intro K hK; simp (disch := first | omega | decide) only [go_sem, f0, f5, f7, f8, f9, f10, f11, f16, o5, o11, p0, p1, p2, p3, p4, ne_eq, not_true_eq_false, decide_false, Bool.false_or, cnt, List.getElem_range, add_ite]; exact hK _))
              refine aops_nil ?_
              refine AW.ret ?_
              refine ⟨.inr rfl, ?_⟩
              refine leaves_tmp1 4 rfl ?_ (by first | rfl | exact hG)
              simp (disch := first | omega | decide) only [go_sem, f0, f5, f7, f8, f9, f10, f11, f16, o5, o11, p0, p1, p2, p3, p4, ne_eq, not_true_eq_false, decide_false, Bool.false_or, cnt, List.getElem_range, add_ite]
              all_goals first | done | (exfalso; omega) | (exfalso; simp at hb; omega) | trace_state

end Go.Vai.V
