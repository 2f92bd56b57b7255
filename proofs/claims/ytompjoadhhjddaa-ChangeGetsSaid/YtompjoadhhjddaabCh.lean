import Derived.Test.YtompjoadhhjddaabDs
import Derived.Test.YtompjoadhhjddaabLsa5
import Derived.Test.YtompjoadhhjddaaChBk
import Derived.Test.YtompjoadhhjddaaVaiD
namespace Go.Vai.C
open Go.Proofs Go.Vai Go.Vai.G Go.Vai.L Go.Vai.O
set_option linter.unusedSimpArgs false
set_option linter.unusedVariables false

attribute [go_sem] cellsOf_ch
theorem cellsOf_lsa (x : Lsa) : cellsOf (lsaA x) = [.i .i64 x.o, .i .i64 x.s, .sl 2 x.nil (x.ls.map linkA)] := rfl
theorem lsaE_dec (l : Lsa) : decide (lsaE l = 0) = lsaOK l := by cases h : lsaOK l <;> simp [lsaE, h]
theorem bare_eq (c : Ch) : lsaEq c.l lsa0 = bare c := by
  have : decide (c.l.ls = lsa0.ls) = decide ((c.l.ls.length : Int) = 0) := decide_eq_decide.2 ⟨fun h => by rw [h]; rfl, fun h => List.eq_nil_of_length_eq_zero (by omega)⟩
  rw [lsaEq, this]; rfl
theorem ch_k1 {c : Ch} (h : c.kind = 1) : chOK c = ((lsaOK c.l && decide (c.n = 0)) && decide (c.of = 0)) := by rw [chOK, if_pos h, Bool.and_assoc]
theorem ch_k2 {c : Ch} (h : c.kind = 2) : chOK c = ((bare c && wi c.n 1 4611686018427387904) && decide (c.of = 0)) := by rw [chOK, if_neg (by omega), if_pos h, Bool.and_assoc]
theorem ch_k3 {c : Ch} (h : c.kind = 3) : chOK c = ((bare c && wi c.n 1 1073741824) && decide (c.of = 0)) := by rw [chOK, if_neg (by omega), if_neg (by omega), if_pos h, Bool.and_assoc]
theorem ch_k4 {c : Ch} (h : c.kind = 4) : chOK c = ((bare c && wi c.n 1 1073741824) && wi c.of 1 64) := by rw [chOK, if_neg (by omega), if_neg (by omega), if_neg (by omega), if_pos h, Bool.and_assoc]
theorem ch_k0 {c : Ch} (h1 : ¬ c.kind = 1) (h2 : ¬ c.kind = 2) (h3 : ¬ c.kind = 3) (h4 : ¬ c.kind = 4) : chOK c = false := by rw [chOK, if_neg h1, if_neg h2, if_neg h3, if_neg h4]
theorem chE_dec (c : Ch) : decide (chE c = 0) = chOK c := by cases h : chOK c <;> simp [chE, h]
set_option maxHeartbeats 4000000 in
set_option maxRecDepth 100000 in
theorem good_withinC (n lo hi : Int) : Good Try.prog 76 [(i64 n, false), (i64 lo, false), (i64 hi, false)] [] [(.b (wi n lo hi), false)] [] := by
  refine good_of_body2 15 Try.func76 rfl rfl rfl (by simp) ?_
  intro s m ha hr hv hG
  have f0 : s 0 = .v (i64 n) := ha 0 _ rfl
  have f1 : s 1 = .v (i64 lo) := ha 1 _ rfl
  have f2 : s 2 = .v (i64 hi) := ha 2 _ rfl
  clear ha
  refine AW.seq ?_
  refine AW.region (cfg := cfg) ?_
  iterate 1 (apply aops_step (by decide) rfl; · (intro K hK; simp (disch := first | omega | decide) only [go_sem, f0, f1, f2]; exact hK _))
  refine aops_nil ?_
  refine AW.seq ?_
  refine AW.region (cfg := cfg) ?_
  iterate 4 (apply aops_step (by decide) rfl; · (intro K hK; simp (disch := first | omega | decide) only [go_sem, f0, f1, f2]; exact hK _))
  apply aops_merge' (by decide) (by exact want_of (d := 10) rfl (by simp (disch := first | omega | decide) only [go_sem, f0, f1, f2, opn_cond]; rfl))
  · intro hc K hK
    have hc2 := hc
    simp only [beq_iff_eq, decide_eq_true_eq, decide_eq_false_iff_not, Bool.or_eq_true, Bool.and_eq_true, Bool.or_eq_false_iff, Bool.and_eq_false_iff] at hc2
    simp (disch := first | omega | decide) only [go_sem, f0, f1, f2, opn_cond, hc, if_true]
    exact hK _
  apply aops_merge' (by decide) (by exact want_of (d := 10) rfl (by simp (disch := first | omega | decide) only [go_sem, f0, f1, f2, opn_cond]; rfl))
  · intro hc K hK
    have hc2 := hc
    simp only [beq_iff_eq, decide_eq_true_eq, decide_eq_false_iff_not, Bool.or_eq_true, Bool.and_eq_true, Bool.or_eq_false_iff, Bool.and_eq_false_iff] at hc2
    simp (disch := first | omega | decide) only [go_sem, f0, f1, f2, opn_cond, hc, if_true]
    exact hK _
  apply aops_merge' (by decide) (by exact want_of (d := 10) rfl (by simp (disch := first | omega | decide) only [go_sem, f0, f1, f2, opn_cond]; rfl))
  · intro hc K hK
    have hc2 := hc
    simp only [beq_iff_eq, decide_eq_true_eq, decide_eq_false_iff_not, Bool.or_eq_true, Bool.and_eq_true, Bool.or_eq_false_iff, Bool.and_eq_false_iff] at hc2
    simp (disch := first | omega | decide) only [go_sem, f0, f1, f2, opn_cond, hc, if_true]
    exact hK _
  iterate 2 (apply aops_step (by decide) rfl; · (intro K hK; simp (disch := first | omega | decide) only [go_sem, f0, f1, f2]; exact hK _))
  refine aops_nil ?_
  refine AW.ret ?_
  refine ⟨.inr rfl, ?_⟩
  refine leaves_tmp1 6 rfl ?_ (by exact hG)
  simp (disch := first | omega | decide) only [go_sem, f0, f1, f2]
  all_goals rfl

set_option maxHeartbeats 4000000 in
set_option maxRecDepth 100000 in
theorem good_bare (c : Ch) (hc : c.l.ls.length ≤ 9223372036854775807) : Good Try.prog 81 [(chA c, false)] [] [(.b (bare c), false)] [] := by
  refine good_of_body2 20 Try.func81 rfl rfl rfl (by simp) ?_
  intro s m ha hr hv hG
  have f0 : s 0 = .v (.agg [i64 c.kind, i64 c.l.o, i64 c.l.s, .sl 2 c.l.nil (c.l.ls.map linkA), i64 c.n, i64 c.of]) := ha 0 _ rfl
  clear ha
  refine AW.seq ?_
  refine AW.region (cfg := cfg) ?_
  apply aops_step (by decide) rfl
  · intro K hK
    simp (disch := first | omega | decide) only [go_sem, f0, act_box_t ti74, List.map, cellsOf_lsa, lsaE_dec, bare_eq]
    rw [settleL_vish _ _ (by rfl)]
    simp (disch := first | omega | decide) only [go_sem, f0, cellsL, List.map, List.length_cons, List.length_nil, Nat.reduceAdd, if_true, cellsOf_lsa, lsaE_dec, bare_eq]
    exact hK _
  iterate 1 (apply aops_step (by decide) rfl; · (intro K hK; simp (disch := first | omega | decide) only [go_sem, f0, cellsOf_lsa, lsaE_dec, bare_eq]; exact hK _))
  refine aops_nil ?_
  refine AW.seq ?_
  refine AW.region (cfg := cfg) ?_
  apply aops_step (by decide) rfl
  · intro K hK
    simp (disch := first | omega | decide) only [go_sem, f0, act_fieldAddr_t fo74_1, List.map, cellsOf_lsa, lsaE_dec, bare_eq]
    rw [mwp_fieldAddr_b (by simp (disch := first | omega | decide) only [go_sem, f0, cellsOf_lsa, lsaE_dec, bare_eq]; rfl)]
    exact hK _
  apply aops_step (by decide) rfl
  · intro K hK
    simp (disch := first | omega | decide) only [go_sem, f0, act_fieldAddr_t fo24_0, List.map, cellsOf_lsa, lsaE_dec, bare_eq]
    rw [mwp_fieldAddr_b (by simp (disch := first | omega | decide) only [go_sem, f0, cellsOf_lsa, lsaE_dec, bare_eq]; rfl)]
    exact hK _
  apply aops_step (by decide) rfl
  · intro K hK
    simp (disch := first | omega | decide) only [go_sem, f0, act_load_t ti3, List.map, cellsOf_lsa, lsaE_dec, bare_eq]
    rw [mwp_load_b1 (by simp (disch := first | omega | decide) only [go_sem, f0, cellsOf_lsa, lsaE_dec, bare_eq]; rfl) (by rfl)]
    exact hK _
  iterate 2 (apply aops_step (by decide) rfl; · (intro K hK; simp (disch := first | omega | decide) only [go_sem, f0, cellsOf_lsa, lsaE_dec, bare_eq]; exact hK _))
  apply aops_merge' (by decide) (by exact want_of (d := 7) rfl (by simp (disch := first | omega | decide) only [go_sem, f0, opn_cond, cellsOf_lsa, lsaE_dec, bare_eq]; rfl))
  · intro hc K hK
    have hc2 := hc
    simp only [beq_iff_eq, decide_eq_true_eq, decide_eq_false_iff_not, Bool.or_eq_true, Bool.and_eq_true, Bool.or_eq_false_iff, Bool.and_eq_false_iff] at hc2
    simp (disch := first | omega | decide) only [go_sem, f0, opn_cond, hc, if_true, act_fieldAddr_t fo74_1, cellsOf_lsa, lsaE_dec, bare_eq]
    rw [mwp_fieldAddr_b (by simp (disch := first | omega | decide) only [go_sem, f0, opn_cond, hc, if_true, cellsOf_lsa, lsaE_dec, bare_eq]; rfl)]
    exact hK _
  apply aops_merge' (by decide) (by exact want_of (d := 7) rfl (by simp (disch := first | omega | decide) only [go_sem, f0, opn_cond, cellsOf_lsa, lsaE_dec, bare_eq]; rfl))
  · intro hc K hK
    have hc2 := hc
    simp only [beq_iff_eq, decide_eq_true_eq, decide_eq_false_iff_not, Bool.or_eq_true, Bool.and_eq_true, Bool.or_eq_false_iff, Bool.and_eq_false_iff] at hc2
    simp (disch := first | omega | decide) only [go_sem, f0, opn_cond, hc, if_true, act_fieldAddr_t fo24_1, cellsOf_lsa, lsaE_dec, bare_eq]
    rw [mwp_fieldAddr_b (by simp (disch := first | omega | decide) only [go_sem, f0, opn_cond, hc, if_true, cellsOf_lsa, lsaE_dec, bare_eq]; rfl)]
    exact hK _
  apply aops_merge' (by decide) (by exact want_of (d := 7) rfl (by simp (disch := first | omega | decide) only [go_sem, f0, opn_cond, cellsOf_lsa, lsaE_dec, bare_eq]; rfl))
  · intro hc K hK
    have hc2 := hc
    simp only [beq_iff_eq, decide_eq_true_eq, decide_eq_false_iff_not, Bool.or_eq_true, Bool.and_eq_true, Bool.or_eq_false_iff, Bool.and_eq_false_iff] at hc2
    simp (disch := first | omega | decide) only [go_sem, f0, opn_cond, hc, if_true, act_load_t ti3, cellsOf_lsa, lsaE_dec, bare_eq]
    rw [mwp_load_b1 (by simp (disch := first | omega | decide) only [go_sem, f0, opn_cond, hc, if_true, cellsOf_lsa, lsaE_dec, bare_eq]; rfl) (by rfl)]
    exact hK _
  apply aops_merge' (by decide) (by exact want_of (d := 7) rfl (by simp (disch := first | omega | decide) only [go_sem, f0, opn_cond, cellsOf_lsa, lsaE_dec, bare_eq]; rfl))
  · intro hc K hK
    have hc2 := hc
    simp only [beq_iff_eq, decide_eq_true_eq, decide_eq_false_iff_not, Bool.or_eq_true, Bool.and_eq_true, Bool.or_eq_false_iff, Bool.and_eq_false_iff] at hc2
    simp (disch := first | omega | decide) only [go_sem, f0, opn_cond, hc, if_true, cellsOf_lsa, lsaE_dec, bare_eq]
    exact hK _
  iterate 2 (apply aops_step (by decide) rfl; · (intro K hK; simp (disch := first | omega | decide) only [go_sem, f0, cellsOf_lsa, lsaE_dec, bare_eq]; exact hK _))
  apply aops_merge' (by decide) (by exact want_of (d := 13) rfl (by simp (disch := first | omega | decide) only [go_sem, f0, opn_cond, cellsOf_lsa, lsaE_dec, bare_eq]; rfl))
  · intro hc K hK
    have hc2 := hc
    simp only [beq_iff_eq, decide_eq_true_eq, decide_eq_false_iff_not, Bool.or_eq_true, Bool.and_eq_true, Bool.or_eq_false_iff, Bool.and_eq_false_iff] at hc2
    simp (disch := first | omega | decide) only [go_sem, f0, opn_cond, hc, if_true, act_fieldAddr_t fo74_1, cellsOf_lsa, lsaE_dec, bare_eq]
    rw [mwp_fieldAddr_b (by simp (disch := first | omega | decide) only [go_sem, f0, opn_cond, hc, if_true, cellsOf_lsa, lsaE_dec, bare_eq]; rfl)]
    exact hK _
  apply aops_merge' (by decide) (by exact want_of (d := 13) rfl (by simp (disch := first | omega | decide) only [go_sem, f0, opn_cond, cellsOf_lsa, lsaE_dec, bare_eq]; rfl))
  · intro hc K hK
    have hc2 := hc
    simp only [beq_iff_eq, decide_eq_true_eq, decide_eq_false_iff_not, Bool.or_eq_true, Bool.and_eq_true, Bool.or_eq_false_iff, Bool.and_eq_false_iff] at hc2
    simp (disch := first | omega | decide) only [go_sem, f0, opn_cond, hc, if_true, act_fieldAddr_t fo24_2, cellsOf_lsa, lsaE_dec, bare_eq]
    rw [mwp_fieldAddr_b (by simp (disch := first | omega | decide) only [go_sem, f0, opn_cond, hc, if_true, cellsOf_lsa, lsaE_dec, bare_eq]; rfl)]
    exact hK _
  apply aops_merge' (by decide) (by exact want_of (d := 13) rfl (by simp (disch := first | omega | decide) only [go_sem, f0, opn_cond, cellsOf_lsa, lsaE_dec, bare_eq]; rfl))
  · intro hc K hK
    have hc2 := hc
    simp only [beq_iff_eq, decide_eq_true_eq, decide_eq_false_iff_not, Bool.or_eq_true, Bool.and_eq_true, Bool.or_eq_false_iff, Bool.and_eq_false_iff] at hc2
    simp (disch := first | omega | decide) only [go_sem, f0, opn_cond, hc, if_true, act_load_t ti22, cellsOf_lsa, lsaE_dec, bare_eq]
    rw [mwp_load_b1 (by simp (disch := first | omega | decide) only [go_sem, f0, opn_cond, hc, if_true, cellsOf_lsa, lsaE_dec, bare_eq]; rfl) (by rfl)]
    exact hK _
  apply aops_merge' (by decide) (by exact want_of (d := 13) rfl (by simp (disch := first | omega | decide) only [go_sem, f0, opn_cond, cellsOf_lsa, lsaE_dec, bare_eq]; rfl))
  · intro hc K hK
    have hc2 := hc
    simp only [beq_iff_eq, decide_eq_true_eq, decide_eq_false_iff_not, Bool.or_eq_true, Bool.and_eq_true, Bool.or_eq_false_iff, Bool.and_eq_false_iff] at hc2
    simp (disch := first | omega | decide) only [go_sem, f0, opn_cond, hc, if_true, List.map, List.length_map, aops_len u22, cellsOf_lsa, lsaE_dec, bare_eq]
    exact hK _
  apply aops_merge' (by decide) (by exact want_of (d := 13) rfl (by simp (disch := first | omega | decide) only [go_sem, f0, opn_cond, cellsOf_lsa, lsaE_dec, bare_eq]; rfl))
  · intro hc K hK
    have hc2 := hc
    simp only [beq_iff_eq, decide_eq_true_eq, decide_eq_false_iff_not, Bool.or_eq_true, Bool.and_eq_true, Bool.or_eq_false_iff, Bool.and_eq_false_iff] at hc2
    simp (disch := first | omega | decide) only [go_sem, f0, opn_cond, hc, if_true, cellsOf_lsa, lsaE_dec, bare_eq]
    exact hK _
  iterate 2 (apply aops_step (by decide) rfl; · (intro K hK; simp (disch := first | omega | decide) only [go_sem, f0, cellsOf_lsa, lsaE_dec, bare_eq]; exact hK _))
  refine aops_nil ?_
  refine AW.ret ?_
  refine ⟨.inr rfl, ?_⟩
  refine leaves_tmp1 2 rfl ?_ (by exact hG)
  simp (disch := first | omega | decide) only [go_sem, f0, cellsOf_lsa, lsaE_dec, bare_eq]
  all_goals (simp only [bare, Bool.and_assoc]; done)

set_option maxHeartbeats 4000000 in
set_option maxRecDepth 100000 in
theorem good_CheckC (c : Ch) (hc : c.l.ls.length ≤ 9223372036854775807) : Good Try.prog 48 [(chA c, false)] [] [(i64 (chE c), false)] [] := by
  refine good_of_body2 66 Try.func48 rfl rfl rfl (by simp) ?_
  intro s m ha hr hv hG
  have f0 : s 0 = .v (.agg [i64 c.kind, i64 c.l.o, i64 c.l.s, .sl 2 c.l.nil (c.l.ls.map linkA), i64 c.n, i64 c.of]) := ha 0 _ rfl
  clear ha
  refine AW.seq ?_
  refine AW.region (cfg := cfg) ?_
  apply aops_step (by decide) rfl
  · intro K hK
    simp (disch := first | omega | decide) only [go_sem, f0, act_box_t ti74, List.map, cellsOf_lsa, lsaE_dec, bare_eq]
    rw [settleL_vish _ _ (by rfl)]
    simp (disch := first | omega | decide) only [go_sem, f0, cellsL, List.map, List.length_cons, List.length_nil, Nat.reduceAdd, if_true, cellsOf_lsa, lsaE_dec, bare_eq]
    exact hK _
  iterate 1 (apply aops_step (by decide) rfl; · (intro K hK; simp (disch := first | omega | decide) only [go_sem, f0, cellsOf_lsa, lsaE_dec, bare_eq]; exact hK _))
  refine aops_nil ?_
  refine AW.seq ?_
  refine AW.region (cfg := cfg) ?_
  iterate 1 (apply aops_step (by decide) rfl; · (intro K hK; simp (disch := first | omega | decide) only [go_sem, f0, cellsOf_lsa, lsaE_dec, bare_eq]; exact hK _))
  refine aops_nil ?_
  refine AW.seq ?_
  refine AW.seq ?_
  refine AW.region (cfg := cfg) ?_
  apply aops_step (by decide) rfl
  · intro K hK
    simp (disch := first | omega | decide) only [go_sem, f0, act_fieldAddr_t fo74_0, List.map, cellsOf_lsa, lsaE_dec, bare_eq]
    rw [mwp_fieldAddr_b (by simp (disch := first | omega | decide) only [go_sem, f0, cellsOf_lsa, lsaE_dec, bare_eq]; rfl)]
    exact hK _
  apply aops_step (by decide) rfl
  · intro K hK
    simp (disch := first | omega | decide) only [go_sem, f0, act_load_t ti3, List.map, cellsOf_lsa, lsaE_dec, bare_eq]
    rw [mwp_load_b1 (by simp (disch := first | omega | decide) only [go_sem, f0, cellsOf_lsa, lsaE_dec, bare_eq]; rfl) (by rfl)]
    exact hK _
  refine aops_nil ?_
  refine AW.block ?_
  refine AW.seq ?_
  refine AW.region (cfg := cfg) ?_
  iterate 2 (apply aops_step (by decide) rfl; · (intro K hK; simp (disch := first | omega | decide) only [go_sem, f0, cellsOf_lsa, lsaE_dec, bare_eq]; exact hK _))
  refine aops_nil ?_
  apply AW.cond
  · simp (disch := first | omega | decide) only [go_sem, f0, cellsOf_lsa, lsaE_dec, bare_eq]; rfl
  case ht =>
    intro hb
    try simp only [Bool.or_eq_true, Bool.and_eq_true, Bool.or_eq_false_iff, Bool.and_eq_false_iff, decide_eq_true_eq, decide_eq_false_iff_not] at hb
    have hbt6 := hb
    refine AW.region (cfg := cfg) ?_
    apply aops_step (by decide) rfl
    · intro K hK
      simp (disch := first | omega | decide) only [go_sem, f0, act_fieldAddr_t fo74_1, List.map, cellsOf_lsa, lsaE_dec, bare_eq]
      rw [mwp_fieldAddr_b (by simp (disch := first | omega | decide) only [go_sem, f0, cellsOf_lsa, lsaE_dec, bare_eq]; rfl)]
      exact hK _
    apply aops_step (by decide) rfl
    · intro K hK
      simp (disch := first | omega | decide) only [go_sem, f0, act_load_t ti24, List.map, cellsOf_lsa, lsaE_dec, bare_eq]
      rw [mwp_load_bs (by simp (disch := first | omega | decide) only [go_sem, f0, cellsOf_lsa, lsaE_dec, bare_eq]; rfl) (by simp [setAt])]
      exact hK _
    apply aops_step (by decide) rfl
    · intro K hK
      simp (disch := first | omega | decide) only [go_sem, f0, act_call, List.map, cellsOf_lsa, lsaE_dec, bare_eq]
      apply mwp_call_s rfl rfl rfl
      · intro Q hQ
        (simp (disch := first | omega | decide) only [go_sem, f0, peekL, reifyL_nil, reifyL_cons, reify_v, cellsOf_lsa, lsaE_dec, bare_eq]; (exact hQ))
      · exact L.good_Check c.l.o c.l.s c.l.nil c.l.ls (by omega)
      · simp [-List.map_take, -List.map_drop, -List.map_append, -List.map_replicate, -List.reduceReplicate, noPtrL, noPtr, noPtrL_bsl, noPtrL_map, sub]
      · rfl
      · exact hK _
    iterate 2 (apply aops_step (by decide) rfl; · (intro K hK; simp (disch := first | omega | decide) only [go_sem, f0, cellsOf_lsa, lsaE_dec, bare_eq]; exact hK _))
    apply aops_merge' (by decide) (by exact want_of (d := 12) rfl (by simp (disch := first | omega | decide) only [go_sem, f0, opn_cond, cellsOf_lsa, lsaE_dec, bare_eq]; rfl))
    · intro hc K hK
      have hc2 := hc
      simp only [beq_iff_eq, decide_eq_true_eq, decide_eq_false_iff_not, Bool.or_eq_true, Bool.and_eq_true, Bool.or_eq_false_iff, Bool.and_eq_false_iff] at hc2
      simp (disch := first | omega | decide) only [go_sem, f0, opn_cond, hc, if_true, act_fieldAddr_t fo74_2, cellsOf_lsa, lsaE_dec, bare_eq]
      rw [mwp_fieldAddr_b (by simp (disch := first | omega | decide) only [go_sem, f0, opn_cond, hc, if_true, cellsOf_lsa, lsaE_dec, bare_eq]; rfl)]
      exact hK _
    apply aops_merge' (by decide) (by exact want_of (d := 12) rfl (by simp (disch := first | omega | decide) only [go_sem, f0, opn_cond, cellsOf_lsa, lsaE_dec, bare_eq]; rfl))
    · intro hc K hK
      have hc2 := hc
      simp only [beq_iff_eq, decide_eq_true_eq, decide_eq_false_iff_not, Bool.or_eq_true, Bool.and_eq_true, Bool.or_eq_false_iff, Bool.and_eq_false_iff] at hc2
      simp (disch := first | omega | decide) only [go_sem, f0, opn_cond, hc, if_true, act_load_t ti3, cellsOf_lsa, lsaE_dec, bare_eq]
      rw [mwp_load_b1 (by simp (disch := first | omega | decide) only [go_sem, f0, opn_cond, hc, if_true, cellsOf_lsa, lsaE_dec, bare_eq]; rfl) (by rfl)]
      exact hK _
    apply aops_merge' (by decide) (by exact want_of (d := 12) rfl (by simp (disch := first | omega | decide) only [go_sem, f0, opn_cond, cellsOf_lsa, lsaE_dec, bare_eq]; rfl))
    · intro hc K hK
      have hc2 := hc
      simp only [beq_iff_eq, decide_eq_true_eq, decide_eq_false_iff_not, Bool.or_eq_true, Bool.and_eq_true, Bool.or_eq_false_iff, Bool.and_eq_false_iff] at hc2
      simp (disch := first | omega | decide) only [go_sem, f0, opn_cond, hc, if_true, cellsOf_lsa, lsaE_dec, bare_eq]
      exact hK _
    iterate 2 (apply aops_step (by decide) rfl; · (intro K hK; simp (disch := first | omega | decide) only [go_sem, f0, cellsOf_lsa, lsaE_dec, bare_eq]; exact hK _))
    apply aops_merge' (by decide) (by exact want_of (d := 17) rfl (by simp (disch := first | omega | decide) only [go_sem, f0, opn_cond, cellsOf_lsa, lsaE_dec, bare_eq]; rfl))
    · intro hc K hK
      have hc2 := hc
      simp only [beq_iff_eq, decide_eq_true_eq, decide_eq_false_iff_not, Bool.or_eq_true, Bool.and_eq_true, Bool.or_eq_false_iff, Bool.and_eq_false_iff] at hc2
      simp (disch := first | omega | decide) only [go_sem, f0, opn_cond, hc, if_true, act_fieldAddr_t fo74_3, cellsOf_lsa, lsaE_dec, bare_eq]
      rw [mwp_fieldAddr_b (by simp (disch := first | omega | decide) only [go_sem, f0, opn_cond, hc, if_true, cellsOf_lsa, lsaE_dec, bare_eq]; rfl)]
      exact hK _
    apply aops_merge' (by decide) (by exact want_of (d := 17) rfl (by simp (disch := first | omega | decide) only [go_sem, f0, opn_cond, cellsOf_lsa, lsaE_dec, bare_eq]; rfl))
    · intro hc K hK
      have hc2 := hc
      simp only [beq_iff_eq, decide_eq_true_eq, decide_eq_false_iff_not, Bool.or_eq_true, Bool.and_eq_true, Bool.or_eq_false_iff, Bool.and_eq_false_iff] at hc2
      simp (disch := first | omega | decide) only [go_sem, f0, opn_cond, hc, if_true, act_load_t ti3, cellsOf_lsa, lsaE_dec, bare_eq]
      rw [mwp_load_b1 (by simp (disch := first | omega | decide) only [go_sem, f0, opn_cond, hc, if_true, cellsOf_lsa, lsaE_dec, bare_eq]; rfl) (by rfl)]
      exact hK _
    apply aops_merge' (by decide) (by exact want_of (d := 17) rfl (by simp (disch := first | omega | decide) only [go_sem, f0, opn_cond, cellsOf_lsa, lsaE_dec, bare_eq]; rfl))
    · intro hc K hK
      have hc2 := hc
      simp only [beq_iff_eq, decide_eq_true_eq, decide_eq_false_iff_not, Bool.or_eq_true, Bool.and_eq_true, Bool.or_eq_false_iff, Bool.and_eq_false_iff] at hc2
      simp (disch := first | omega | decide) only [go_sem, f0, opn_cond, hc, if_true, cellsOf_lsa, lsaE_dec, bare_eq]
      exact hK _
    iterate 2 (apply aops_step (by decide) rfl; · (intro K hK; simp (disch := first | omega | decide) only [go_sem, f0, cellsOf_lsa, lsaE_dec, bare_eq]; exact hK _))
    refine aops_nil ?_
    refine AW.seq ?_
    refine AW.seq ?_
    refine AW.region (cfg := cfg) ?_
    iterate 2 (apply aops_step (by decide) rfl; · (intro K hK; simp (disch := first | omega | decide) only [go_sem, f0, cellsOf_lsa, lsaE_dec, bare_eq]; exact hK _))
    refine aops_nil ?_
    apply AW.cond
    · simp (disch := first | omega | decide) only [go_sem, f0, cellsOf_lsa, lsaE_dec, bare_eq]; rfl
    case ht =>
      intro hb
      try simp only [Bool.or_eq_true, Bool.and_eq_true, Bool.or_eq_false_iff, Bool.and_eq_false_iff, decide_eq_true_eq, decide_eq_false_iff_not] at hb
      have hbt65 := hb
      refine AW.seq ?_
      refine AW.region (cfg := cfg) ?_
      iterate 1 (apply aops_step (by decide) rfl; · (intro K hK; simp (disch := first | omega | decide) only [go_sem, f0, cellsOf_lsa, lsaE_dec, bare_eq]; exact hK _))
      refine aops_nil ?_
      refine AW.ret ?_
      refine ⟨.inr rfl, ?_⟩
      refine leaves_tmp1 2 rfl ?_ (by exact hG)
      simp (disch := first | omega | decide) only [go_sem, f0, cellsOf_lsa, lsaE_dec, bare_eq]
      all_goals (rw [chE, ch_k1 hbt6, bnot_t hbt65]; rfl)
    case hf =>
      intro hb
      try simp only [Bool.or_eq_true, Bool.and_eq_true, Bool.or_eq_false_iff, Bool.and_eq_false_iff, decide_eq_true_eq, decide_eq_false_iff_not] at hb
      have hbt65 := hb
      refine AW.skip ?_
      refine AW.seq ?_
      refine AW.region (cfg := cfg) ?_
      iterate 1 (apply aops_step (by decide) rfl; · (intro K hK; simp (disch := first | omega | decide) only [go_sem, f0, cellsOf_lsa, lsaE_dec, bare_eq]; exact hK _))
      refine aops_nil ?_
      refine AW.ret ?_
      refine ⟨.inr rfl, ?_⟩
      refine leaves_tmp1 2 rfl ?_ (by exact hG)
      simp (disch := first | omega | decide) only [go_sem, f0, cellsOf_lsa, lsaE_dec, bare_eq]
      all_goals (rw [chE, ch_k1 hbt6, bnot_f hbt65]; rfl)
  case hf =>
    intro hb
    try simp only [Bool.or_eq_true, Bool.and_eq_true, Bool.or_eq_false_iff, Bool.and_eq_false_iff, decide_eq_true_eq, decide_eq_false_iff_not] at hb
    have hbt6 := hb
    refine AW.seq ?_
    refine AW.region (cfg := cfg) ?_
    iterate 2 (apply aops_step (by decide) rfl; · (intro K hK; simp (disch := first | omega | decide) only [go_sem, f0, cellsOf_lsa, lsaE_dec, bare_eq]; exact hK _))
    refine aops_nil ?_
    apply AW.cond
    · simp (disch := first | omega | decide) only [go_sem, f0, cellsOf_lsa, lsaE_dec, bare_eq]; rfl
    case ht =>
      intro hb
      try simp only [Bool.or_eq_true, Bool.and_eq_true, Bool.or_eq_false_iff, Bool.and_eq_false_iff, decide_eq_true_eq, decide_eq_false_iff_not] at hb
      have hbt22 := hb
      refine AW.region (cfg := cfg) ?_
      apply aops_step (by decide) rfl
      · intro K hK
        simp (disch := first | omega | decide) only [go_sem, f0, act_load_t ti74, List.map, cellsOf_lsa, lsaE_dec, bare_eq]
        rw [mwp_load_bs (by simp (disch := first | omega | decide) only [go_sem, f0, cellsOf_lsa, lsaE_dec, bare_eq]; rfl) (by simp [setAt])]
        exact hK _
      apply aops_step (by decide) rfl
      · intro K hK
        simp (disch := first | omega | decide) only [go_sem, f0, act_call, List.map, cellsOf_lsa, lsaE_dec, bare_eq]
        apply mwp_call_s rfl rfl rfl
        · intro Q hQ
          (simp (disch := first | omega | decide) only [go_sem, f0, peekL, reifyL_nil, reifyL_cons, reify_v, cellsOf_lsa, lsaE_dec, bare_eq]; (exact hQ))
        · exact good_bare c (by omega)
        · simp [-List.map_take, -List.map_drop, -List.map_append, -List.map_replicate, -List.reduceReplicate, noPtrL, noPtr, noPtrL_bsl, noPtrL_map, sub]
        · rfl
        · exact hK _
      iterate 1 (apply aops_step (by decide) rfl; · (intro K hK; simp (disch := first | omega | decide) only [go_sem, f0, cellsOf_lsa, lsaE_dec, bare_eq]; exact hK _))
      apply aops_merge' (by decide) (by exact want_of (d := 26) rfl (by simp (disch := first | omega | decide) only [go_sem, f0, opn_cond, cellsOf_lsa, lsaE_dec, bare_eq]; rfl))
      · intro hc K hK
        have hc2 := hc
        simp only [beq_iff_eq, decide_eq_true_eq, decide_eq_false_iff_not, Bool.or_eq_true, Bool.and_eq_true, Bool.or_eq_false_iff, Bool.and_eq_false_iff] at hc2
        simp (disch := first | omega | decide) only [go_sem, f0, opn_cond, hc, if_true, act_fieldAddr_t fo74_2, cellsOf_lsa, lsaE_dec, bare_eq]
        rw [mwp_fieldAddr_b (by simp (disch := first | omega | decide) only [go_sem, f0, opn_cond, hc, if_true, cellsOf_lsa, lsaE_dec, bare_eq]; rfl)]
        exact hK _
      apply aops_merge' (by decide) (by exact want_of (d := 26) rfl (by simp (disch := first | omega | decide) only [go_sem, f0, opn_cond, cellsOf_lsa, lsaE_dec, bare_eq]; rfl))
      · intro hc K hK
        have hc2 := hc
        simp only [beq_iff_eq, decide_eq_true_eq, decide_eq_false_iff_not, Bool.or_eq_true, Bool.and_eq_true, Bool.or_eq_false_iff, Bool.and_eq_false_iff] at hc2
        simp (disch := first | omega | decide) only [go_sem, f0, opn_cond, hc, if_true, act_load_t ti3, cellsOf_lsa, lsaE_dec, bare_eq]
        rw [mwp_load_b1 (by simp (disch := first | omega | decide) only [go_sem, f0, opn_cond, hc, if_true, cellsOf_lsa, lsaE_dec, bare_eq]; rfl) (by rfl)]
        exact hK _
      apply aops_merge' (by decide) (by exact want_of (d := 26) rfl (by simp (disch := first | omega | decide) only [go_sem, f0, opn_cond, cellsOf_lsa, lsaE_dec, bare_eq]; rfl))
      · intro hc K hK
        have hc2 := hc
        simp only [beq_iff_eq, decide_eq_true_eq, decide_eq_false_iff_not, Bool.or_eq_true, Bool.and_eq_true, Bool.or_eq_false_iff, Bool.and_eq_false_iff] at hc2
        simp (disch := first | omega | decide) only [go_sem, f0, opn_cond, hc, if_true, act_call, List.map, cellsOf_lsa, lsaE_dec, bare_eq]
        apply mwp_call_s rfl rfl rfl
        · intro Q hQ
          (simp (disch := first | omega | decide) only [go_sem, f0, opn_cond, hc, if_true, peekL, reifyL_nil, reifyL_cons, reify_v, cellsOf_lsa, lsaE_dec, bare_eq]; (exact hQ))
        · exact good_withinC _ _ _
        · simp [-List.map_take, -List.map_drop, -List.map_append, -List.map_replicate, -List.reduceReplicate, noPtrL, noPtr, noPtrL_bsl, noPtrL_map, sub]
        · rfl
        · exact hK _
      iterate 2 (apply aops_step (by decide) rfl; · (intro K hK; simp (disch := first | omega | decide) only [go_sem, f0, cellsOf_lsa, lsaE_dec, bare_eq]; exact hK _))
      apply aops_merge' (by decide) (by exact want_of (d := 31) rfl (by simp (disch := first | omega | decide) only [go_sem, f0, opn_cond, cellsOf_lsa, lsaE_dec, bare_eq]; rfl))
      · intro hc K hK
        have hc2 := hc
        simp only [beq_iff_eq, decide_eq_true_eq, decide_eq_false_iff_not, Bool.or_eq_true, Bool.and_eq_true, Bool.or_eq_false_iff, Bool.and_eq_false_iff] at hc2
        simp (disch := first | omega | decide) only [go_sem, f0, opn_cond, hc, if_true, act_fieldAddr_t fo74_3, cellsOf_lsa, lsaE_dec, bare_eq]
        rw [mwp_fieldAddr_b (by simp (disch := first | omega | decide) only [go_sem, f0, opn_cond, hc, if_true, cellsOf_lsa, lsaE_dec, bare_eq]; rfl)]
        exact hK _
      apply aops_merge' (by decide) (by exact want_of (d := 31) rfl (by simp (disch := first | omega | decide) only [go_sem, f0, opn_cond, cellsOf_lsa, lsaE_dec, bare_eq]; rfl))
      · intro hc K hK
        have hc2 := hc
        simp only [beq_iff_eq, decide_eq_true_eq, decide_eq_false_iff_not, Bool.or_eq_true, Bool.and_eq_true, Bool.or_eq_false_iff, Bool.and_eq_false_iff] at hc2
        simp (disch := first | omega | decide) only [go_sem, f0, opn_cond, hc, if_true, act_load_t ti3, cellsOf_lsa, lsaE_dec, bare_eq]
        rw [mwp_load_b1 (by simp (disch := first | omega | decide) only [go_sem, f0, opn_cond, hc, if_true, cellsOf_lsa, lsaE_dec, bare_eq]; rfl) (by rfl)]
        exact hK _
      apply aops_merge' (by decide) (by exact want_of (d := 31) rfl (by simp (disch := first | omega | decide) only [go_sem, f0, opn_cond, cellsOf_lsa, lsaE_dec, bare_eq]; rfl))
      · intro hc K hK
        have hc2 := hc
        simp only [beq_iff_eq, decide_eq_true_eq, decide_eq_false_iff_not, Bool.or_eq_true, Bool.and_eq_true, Bool.or_eq_false_iff, Bool.and_eq_false_iff] at hc2
        simp (disch := first | omega | decide) only [go_sem, f0, opn_cond, hc, if_true, cellsOf_lsa, lsaE_dec, bare_eq]
        exact hK _
      iterate 2 (apply aops_step (by decide) rfl; · (intro K hK; simp (disch := first | omega | decide) only [go_sem, f0, cellsOf_lsa, lsaE_dec, bare_eq]; exact hK _))
      refine aops_nil ?_
      refine AW.seq ?_
      refine AW.seq ?_
      refine AW.region (cfg := cfg) ?_
      iterate 2 (apply aops_step (by decide) rfl; · (intro K hK; simp (disch := first | omega | decide) only [go_sem, f0, cellsOf_lsa, lsaE_dec, bare_eq]; exact hK _))
      refine aops_nil ?_
      apply AW.cond
      · simp (disch := first | omega | decide) only [go_sem, f0, cellsOf_lsa, lsaE_dec, bare_eq]; rfl
      case ht =>
        intro hb
        try simp only [Bool.or_eq_true, Bool.and_eq_true, Bool.or_eq_false_iff, Bool.and_eq_false_iff, decide_eq_true_eq, decide_eq_false_iff_not] at hb
        have hbt65 := hb
        refine AW.seq ?_
        refine AW.region (cfg := cfg) ?_
        iterate 1 (apply aops_step (by decide) rfl; · (intro K hK; simp (disch := first | omega | decide) only [go_sem, f0, cellsOf_lsa, lsaE_dec, bare_eq]; exact hK _))
        refine aops_nil ?_
        refine AW.ret ?_
        refine ⟨.inr rfl, ?_⟩
        refine leaves_tmp1 2 rfl ?_ (by exact hG)
        simp (disch := first | omega | decide) only [go_sem, f0, cellsOf_lsa, lsaE_dec, bare_eq]
        all_goals (rw [chE, ch_k2 hbt22, bnot_t hbt65]; rfl)
      case hf =>
        intro hb
        try simp only [Bool.or_eq_true, Bool.and_eq_true, Bool.or_eq_false_iff, Bool.and_eq_false_iff, decide_eq_true_eq, decide_eq_false_iff_not] at hb
        have hbt65 := hb
        refine AW.skip ?_
        refine AW.seq ?_
        refine AW.region (cfg := cfg) ?_
        iterate 1 (apply aops_step (by decide) rfl; · (intro K hK; simp (disch := first | omega | decide) only [go_sem, f0, cellsOf_lsa, lsaE_dec, bare_eq]; exact hK _))
        refine aops_nil ?_
        refine AW.ret ?_
        refine ⟨.inr rfl, ?_⟩
        refine leaves_tmp1 2 rfl ?_ (by exact hG)
        simp (disch := first | omega | decide) only [go_sem, f0, cellsOf_lsa, lsaE_dec, bare_eq]
        all_goals (rw [chE, ch_k2 hbt22, bnot_f hbt65]; rfl)
    case hf =>
      intro hb
      try simp only [Bool.or_eq_true, Bool.and_eq_true, Bool.or_eq_false_iff, Bool.and_eq_false_iff, decide_eq_true_eq, decide_eq_false_iff_not] at hb
      have hbt22 := hb
      refine AW.seq ?_
      refine AW.region (cfg := cfg) ?_
      iterate 2 (apply aops_step (by decide) rfl; · (intro K hK; simp (disch := first | omega | decide) only [go_sem, f0, cellsOf_lsa, lsaE_dec, bare_eq]; exact hK _))
      refine aops_nil ?_
      apply AW.cond
      · simp (disch := first | omega | decide) only [go_sem, f0, cellsOf_lsa, lsaE_dec, bare_eq]; rfl
      case ht =>
        intro hb
        try simp only [Bool.or_eq_true, Bool.and_eq_true, Bool.or_eq_false_iff, Bool.and_eq_false_iff, decide_eq_true_eq, decide_eq_false_iff_not] at hb
        have hbt36 := hb
        refine AW.region (cfg := cfg) ?_
        apply aops_step (by decide) rfl
        · intro K hK
          simp (disch := first | omega | decide) only [go_sem, f0, act_load_t ti74, List.map, cellsOf_lsa, lsaE_dec, bare_eq]
          rw [mwp_load_bs (by simp (disch := first | omega | decide) only [go_sem, f0, cellsOf_lsa, lsaE_dec, bare_eq]; rfl) (by simp [setAt])]
          exact hK _
        apply aops_step (by decide) rfl
        · intro K hK
          simp (disch := first | omega | decide) only [go_sem, f0, act_call, List.map, cellsOf_lsa, lsaE_dec, bare_eq]
          apply mwp_call_s rfl rfl rfl
          · intro Q hQ
            (simp (disch := first | omega | decide) only [go_sem, f0, peekL, reifyL_nil, reifyL_cons, reify_v, cellsOf_lsa, lsaE_dec, bare_eq]; (exact hQ))
          · exact good_bare c (by omega)
          · simp [-List.map_take, -List.map_drop, -List.map_append, -List.map_replicate, -List.reduceReplicate, noPtrL, noPtr, noPtrL_bsl, noPtrL_map, sub]
          · rfl
          · exact hK _
        iterate 1 (apply aops_step (by decide) rfl; · (intro K hK; simp (disch := first | omega | decide) only [go_sem, f0, cellsOf_lsa, lsaE_dec, bare_eq]; exact hK _))
        apply aops_merge' (by decide) (by exact want_of (d := 40) rfl (by simp (disch := first | omega | decide) only [go_sem, f0, opn_cond, cellsOf_lsa, lsaE_dec, bare_eq]; rfl))
        · intro hc K hK
          have hc2 := hc
          simp only [beq_iff_eq, decide_eq_true_eq, decide_eq_false_iff_not, Bool.or_eq_true, Bool.and_eq_true, Bool.or_eq_false_iff, Bool.and_eq_false_iff] at hc2
          simp (disch := first | omega | decide) only [go_sem, f0, opn_cond, hc, if_true, act_fieldAddr_t fo74_2, cellsOf_lsa, lsaE_dec, bare_eq]
          rw [mwp_fieldAddr_b (by simp (disch := first | omega | decide) only [go_sem, f0, opn_cond, hc, if_true, cellsOf_lsa, lsaE_dec, bare_eq]; rfl)]
          exact hK _
        apply aops_merge' (by decide) (by exact want_of (d := 40) rfl (by simp (disch := first | omega | decide) only [go_sem, f0, opn_cond, cellsOf_lsa, lsaE_dec, bare_eq]; rfl))
        · intro hc K hK
          have hc2 := hc
          simp only [beq_iff_eq, decide_eq_true_eq, decide_eq_false_iff_not, Bool.or_eq_true, Bool.and_eq_true, Bool.or_eq_false_iff, Bool.and_eq_false_iff] at hc2
          simp (disch := first | omega | decide) only [go_sem, f0, opn_cond, hc, if_true, act_load_t ti3, cellsOf_lsa, lsaE_dec, bare_eq]
          rw [mwp_load_b1 (by simp (disch := first | omega | decide) only [go_sem, f0, opn_cond, hc, if_true, cellsOf_lsa, lsaE_dec, bare_eq]; rfl) (by rfl)]
          exact hK _
        apply aops_merge' (by decide) (by exact want_of (d := 40) rfl (by simp (disch := first | omega | decide) only [go_sem, f0, opn_cond, cellsOf_lsa, lsaE_dec, bare_eq]; rfl))
        · intro hc K hK
          have hc2 := hc
          simp only [beq_iff_eq, decide_eq_true_eq, decide_eq_false_iff_not, Bool.or_eq_true, Bool.and_eq_true, Bool.or_eq_false_iff, Bool.and_eq_false_iff] at hc2
          simp (disch := first | omega | decide) only [go_sem, f0, opn_cond, hc, if_true, act_call, List.map, cellsOf_lsa, lsaE_dec, bare_eq]
          apply mwp_call_s rfl rfl rfl
          · intro Q hQ
            (simp (disch := first | omega | decide) only [go_sem, f0, opn_cond, hc, if_true, peekL, reifyL_nil, reifyL_cons, reify_v, cellsOf_lsa, lsaE_dec, bare_eq]; (exact hQ))
          · exact good_withinC _ _ _
          · simp [-List.map_take, -List.map_drop, -List.map_append, -List.map_replicate, -List.reduceReplicate, noPtrL, noPtr, noPtrL_bsl, noPtrL_map, sub]
          · rfl
          · exact hK _
        iterate 2 (apply aops_step (by decide) rfl; · (intro K hK; simp (disch := first | omega | decide) only [go_sem, f0, cellsOf_lsa, lsaE_dec, bare_eq]; exact hK _))
        apply aops_merge' (by decide) (by exact want_of (d := 45) rfl (by simp (disch := first | omega | decide) only [go_sem, f0, opn_cond, cellsOf_lsa, lsaE_dec, bare_eq]; rfl))
        · intro hc K hK
          have hc2 := hc
          simp only [beq_iff_eq, decide_eq_true_eq, decide_eq_false_iff_not, Bool.or_eq_true, Bool.and_eq_true, Bool.or_eq_false_iff, Bool.and_eq_false_iff] at hc2
          simp (disch := first | omega | decide) only [go_sem, f0, opn_cond, hc, if_true, act_fieldAddr_t fo74_3, cellsOf_lsa, lsaE_dec, bare_eq]
          rw [mwp_fieldAddr_b (by simp (disch := first | omega | decide) only [go_sem, f0, opn_cond, hc, if_true, cellsOf_lsa, lsaE_dec, bare_eq]; rfl)]
          exact hK _
        apply aops_merge' (by decide) (by exact want_of (d := 45) rfl (by simp (disch := first | omega | decide) only [go_sem, f0, opn_cond, cellsOf_lsa, lsaE_dec, bare_eq]; rfl))
        · intro hc K hK
          have hc2 := hc
          simp only [beq_iff_eq, decide_eq_true_eq, decide_eq_false_iff_not, Bool.or_eq_true, Bool.and_eq_true, Bool.or_eq_false_iff, Bool.and_eq_false_iff] at hc2
          simp (disch := first | omega | decide) only [go_sem, f0, opn_cond, hc, if_true, act_load_t ti3, cellsOf_lsa, lsaE_dec, bare_eq]
          rw [mwp_load_b1 (by simp (disch := first | omega | decide) only [go_sem, f0, opn_cond, hc, if_true, cellsOf_lsa, lsaE_dec, bare_eq]; rfl) (by rfl)]
          exact hK _
        apply aops_merge' (by decide) (by exact want_of (d := 45) rfl (by simp (disch := first | omega | decide) only [go_sem, f0, opn_cond, cellsOf_lsa, lsaE_dec, bare_eq]; rfl))
        · intro hc K hK
          have hc2 := hc
          simp only [beq_iff_eq, decide_eq_true_eq, decide_eq_false_iff_not, Bool.or_eq_true, Bool.and_eq_true, Bool.or_eq_false_iff, Bool.and_eq_false_iff] at hc2
          simp (disch := first | omega | decide) only [go_sem, f0, opn_cond, hc, if_true, cellsOf_lsa, lsaE_dec, bare_eq]
          exact hK _
        iterate 2 (apply aops_step (by decide) rfl; · (intro K hK; simp (disch := first | omega | decide) only [go_sem, f0, cellsOf_lsa, lsaE_dec, bare_eq]; exact hK _))
        refine aops_nil ?_
        refine AW.seq ?_
        refine AW.seq ?_
        refine AW.region (cfg := cfg) ?_
        iterate 2 (apply aops_step (by decide) rfl; · (intro K hK; simp (disch := first | omega | decide) only [go_sem, f0, cellsOf_lsa, lsaE_dec, bare_eq]; exact hK _))
        refine aops_nil ?_
        apply AW.cond
        · simp (disch := first | omega | decide) only [go_sem, f0, cellsOf_lsa, lsaE_dec, bare_eq]; rfl
        case ht =>
          intro hb
          try simp only [Bool.or_eq_true, Bool.and_eq_true, Bool.or_eq_false_iff, Bool.and_eq_false_iff, decide_eq_true_eq, decide_eq_false_iff_not] at hb
          have hbt65 := hb
          refine AW.seq ?_
          refine AW.region (cfg := cfg) ?_
          iterate 1 (apply aops_step (by decide) rfl; · (intro K hK; simp (disch := first | omega | decide) only [go_sem, f0, cellsOf_lsa, lsaE_dec, bare_eq]; exact hK _))
          refine aops_nil ?_
          refine AW.ret ?_
          refine ⟨.inr rfl, ?_⟩
          refine leaves_tmp1 2 rfl ?_ (by exact hG)
          simp (disch := first | omega | decide) only [go_sem, f0, cellsOf_lsa, lsaE_dec, bare_eq]
          all_goals (rw [chE, ch_k3 hbt36, bnot_t hbt65]; rfl)
        case hf =>
          intro hb
          try simp only [Bool.or_eq_true, Bool.and_eq_true, Bool.or_eq_false_iff, Bool.and_eq_false_iff, decide_eq_true_eq, decide_eq_false_iff_not] at hb
          have hbt65 := hb
          refine AW.skip ?_
          refine AW.seq ?_
          refine AW.region (cfg := cfg) ?_
          iterate 1 (apply aops_step (by decide) rfl; · (intro K hK; simp (disch := first | omega | decide) only [go_sem, f0, cellsOf_lsa, lsaE_dec, bare_eq]; exact hK _))
          refine aops_nil ?_
          refine AW.ret ?_
          refine ⟨.inr rfl, ?_⟩
          refine leaves_tmp1 2 rfl ?_ (by exact hG)
          simp (disch := first | omega | decide) only [go_sem, f0, cellsOf_lsa, lsaE_dec, bare_eq]
          all_goals (rw [chE, ch_k3 hbt36, bnot_f hbt65]; rfl)
      case hf =>
        intro hb
        try simp only [Bool.or_eq_true, Bool.and_eq_true, Bool.or_eq_false_iff, Bool.and_eq_false_iff, decide_eq_true_eq, decide_eq_false_iff_not] at hb
        have hbt36 := hb
        refine AW.seq ?_
        refine AW.region (cfg := cfg) ?_
        iterate 2 (apply aops_step (by decide) rfl; · (intro K hK; simp (disch := first | omega | decide) only [go_sem, f0, cellsOf_lsa, lsaE_dec, bare_eq]; exact hK _))
        refine aops_nil ?_
        apply AW.cond
        · simp (disch := first | omega | decide) only [go_sem, f0, cellsOf_lsa, lsaE_dec, bare_eq]; rfl
        case ht =>
          intro hb
          try simp only [Bool.or_eq_true, Bool.and_eq_true, Bool.or_eq_false_iff, Bool.and_eq_false_iff, decide_eq_true_eq, decide_eq_false_iff_not] at hb
          have hbt50 := hb
          refine AW.region (cfg := cfg) ?_
          apply aops_step (by decide) rfl
          · intro K hK
            simp (disch := first | omega | decide) only [go_sem, f0, act_load_t ti74, List.map, cellsOf_lsa, lsaE_dec, bare_eq]
            rw [mwp_load_bs (by simp (disch := first | omega | decide) only [go_sem, f0, cellsOf_lsa, lsaE_dec, bare_eq]; rfl) (by simp [setAt])]
            exact hK _
          apply aops_step (by decide) rfl
          · intro K hK
            simp (disch := first | omega | decide) only [go_sem, f0, act_call, List.map, cellsOf_lsa, lsaE_dec, bare_eq]
            apply mwp_call_s rfl rfl rfl
            · intro Q hQ
              (simp (disch := first | omega | decide) only [go_sem, f0, peekL, reifyL_nil, reifyL_cons, reify_v, cellsOf_lsa, lsaE_dec, bare_eq]; (exact hQ))
            · exact good_bare c (by omega)
            · simp [-List.map_take, -List.map_drop, -List.map_append, -List.map_replicate, -List.reduceReplicate, noPtrL, noPtr, noPtrL_bsl, noPtrL_map, sub]
            · rfl
            · exact hK _
          iterate 1 (apply aops_step (by decide) rfl; · (intro K hK; simp (disch := first | omega | decide) only [go_sem, f0, cellsOf_lsa, lsaE_dec, bare_eq]; exact hK _))
          apply aops_merge' (by decide) (by exact want_of (d := 54) rfl (by simp (disch := first | omega | decide) only [go_sem, f0, opn_cond, cellsOf_lsa, lsaE_dec, bare_eq]; rfl))
          · intro hc K hK
            have hc2 := hc
            simp only [beq_iff_eq, decide_eq_true_eq, decide_eq_false_iff_not, Bool.or_eq_true, Bool.and_eq_true, Bool.or_eq_false_iff, Bool.and_eq_false_iff] at hc2
            simp (disch := first | omega | decide) only [go_sem, f0, opn_cond, hc, if_true, act_fieldAddr_t fo74_2, cellsOf_lsa, lsaE_dec, bare_eq]
            rw [mwp_fieldAddr_b (by simp (disch := first | omega | decide) only [go_sem, f0, opn_cond, hc, if_true, cellsOf_lsa, lsaE_dec, bare_eq]; rfl)]
            exact hK _
          apply aops_merge' (by decide) (by exact want_of (d := 54) rfl (by simp (disch := first | omega | decide) only [go_sem, f0, opn_cond, cellsOf_lsa, lsaE_dec, bare_eq]; rfl))
          · intro hc K hK
            have hc2 := hc
            simp only [beq_iff_eq, decide_eq_true_eq, decide_eq_false_iff_not, Bool.or_eq_true, Bool.and_eq_true, Bool.or_eq_false_iff, Bool.and_eq_false_iff] at hc2
            simp (disch := first | omega | decide) only [go_sem, f0, opn_cond, hc, if_true, act_load_t ti3, cellsOf_lsa, lsaE_dec, bare_eq]
            rw [mwp_load_b1 (by simp (disch := first | omega | decide) only [go_sem, f0, opn_cond, hc, if_true, cellsOf_lsa, lsaE_dec, bare_eq]; rfl) (by rfl)]
            exact hK _
          apply aops_merge' (by decide) (by exact want_of (d := 54) rfl (by simp (disch := first | omega | decide) only [go_sem, f0, opn_cond, cellsOf_lsa, lsaE_dec, bare_eq]; rfl))
          · intro hc K hK
            have hc2 := hc
            simp only [beq_iff_eq, decide_eq_true_eq, decide_eq_false_iff_not, Bool.or_eq_true, Bool.and_eq_true, Bool.or_eq_false_iff, Bool.and_eq_false_iff] at hc2
            simp (disch := first | omega | decide) only [go_sem, f0, opn_cond, hc, if_true, act_call, List.map, cellsOf_lsa, lsaE_dec, bare_eq]
            apply mwp_call_s rfl rfl rfl
            · intro Q hQ
              (simp (disch := first | omega | decide) only [go_sem, f0, opn_cond, hc, if_true, peekL, reifyL_nil, reifyL_cons, reify_v, cellsOf_lsa, lsaE_dec, bare_eq]; (exact hQ))
            · exact good_withinC _ _ _
            · simp [-List.map_take, -List.map_drop, -List.map_append, -List.map_replicate, -List.reduceReplicate, noPtrL, noPtr, noPtrL_bsl, noPtrL_map, sub]
            · rfl
            · exact hK _
          iterate 2 (apply aops_step (by decide) rfl; · (intro K hK; simp (disch := first | omega | decide) only [go_sem, f0, cellsOf_lsa, lsaE_dec, bare_eq]; exact hK _))
          apply aops_merge' (by decide) (by exact want_of (d := 59) rfl (by simp (disch := first | omega | decide) only [go_sem, f0, opn_cond, cellsOf_lsa, lsaE_dec, bare_eq]; rfl))
          · intro hc K hK
            have hc2 := hc
            simp only [beq_iff_eq, decide_eq_true_eq, decide_eq_false_iff_not, Bool.or_eq_true, Bool.and_eq_true, Bool.or_eq_false_iff, Bool.and_eq_false_iff] at hc2
            simp (disch := first | omega | decide) only [go_sem, f0, opn_cond, hc, if_true, act_fieldAddr_t fo74_3, cellsOf_lsa, lsaE_dec, bare_eq]
            rw [mwp_fieldAddr_b (by simp (disch := first | omega | decide) only [go_sem, f0, opn_cond, hc, if_true, cellsOf_lsa, lsaE_dec, bare_eq]; rfl)]
            exact hK _
          apply aops_merge' (by decide) (by exact want_of (d := 59) rfl (by simp (disch := first | omega | decide) only [go_sem, f0, opn_cond, cellsOf_lsa, lsaE_dec, bare_eq]; rfl))
          · intro hc K hK
            have hc2 := hc
            simp only [beq_iff_eq, decide_eq_true_eq, decide_eq_false_iff_not, Bool.or_eq_true, Bool.and_eq_true, Bool.or_eq_false_iff, Bool.and_eq_false_iff] at hc2
            simp (disch := first | omega | decide) only [go_sem, f0, opn_cond, hc, if_true, act_load_t ti3, cellsOf_lsa, lsaE_dec, bare_eq]
            rw [mwp_load_b1 (by simp (disch := first | omega | decide) only [go_sem, f0, opn_cond, hc, if_true, cellsOf_lsa, lsaE_dec, bare_eq]; rfl) (by rfl)]
            exact hK _
          apply aops_merge' (by decide) (by exact want_of (d := 59) rfl (by simp (disch := first | omega | decide) only [go_sem, f0, opn_cond, cellsOf_lsa, lsaE_dec, bare_eq]; rfl))
          · intro hc K hK
            have hc2 := hc
            simp only [beq_iff_eq, decide_eq_true_eq, decide_eq_false_iff_not, Bool.or_eq_true, Bool.and_eq_true, Bool.or_eq_false_iff, Bool.and_eq_false_iff] at hc2
            simp (disch := first | omega | decide) only [go_sem, f0, opn_cond, hc, if_true, act_call, List.map, cellsOf_lsa, lsaE_dec, bare_eq]
            apply mwp_call_s rfl rfl rfl
            · intro Q hQ
              (simp (disch := first | omega | decide) only [go_sem, f0, opn_cond, hc, if_true, peekL, reifyL_nil, reifyL_cons, reify_v, cellsOf_lsa, lsaE_dec, bare_eq]; (exact hQ))
            · exact good_withinC _ _ _
            · simp [-List.map_take, -List.map_drop, -List.map_append, -List.map_replicate, -List.reduceReplicate, noPtrL, noPtr, noPtrL_bsl, noPtrL_map, sub]
            · rfl
            · exact hK _
          iterate 2 (apply aops_step (by decide) rfl; · (intro K hK; simp (disch := first | omega | decide) only [go_sem, f0, cellsOf_lsa, lsaE_dec, bare_eq]; exact hK _))
          refine aops_nil ?_
          refine AW.seq ?_
          refine AW.seq ?_
          refine AW.region (cfg := cfg) ?_
          iterate 2 (apply aops_step (by decide) rfl; · (intro K hK; simp (disch := first | omega | decide) only [go_sem, f0, cellsOf_lsa, lsaE_dec, bare_eq]; exact hK _))
          refine aops_nil ?_
          apply AW.cond
          · simp (disch := first | omega | decide) only [go_sem, f0, cellsOf_lsa, lsaE_dec, bare_eq]; rfl
          case ht =>
            intro hb
            try simp only [Bool.or_eq_true, Bool.and_eq_true, Bool.or_eq_false_iff, Bool.and_eq_false_iff, decide_eq_true_eq, decide_eq_false_iff_not] at hb
            have hbt65 := hb
            refine AW.seq ?_
            refine AW.region (cfg := cfg) ?_
            iterate 1 (apply aops_step (by decide) rfl; · (intro K hK; simp (disch := first | omega | decide) only [go_sem, f0, cellsOf_lsa, lsaE_dec, bare_eq]; exact hK _))
            refine aops_nil ?_
            refine AW.ret ?_
            refine ⟨.inr rfl, ?_⟩
            refine leaves_tmp1 2 rfl ?_ (by exact hG)
            simp (disch := first | omega | decide) only [go_sem, f0, cellsOf_lsa, lsaE_dec, bare_eq]
            all_goals (rw [chE, ch_k4 hbt50, bnot_t hbt65]; rfl)
          case hf =>
            intro hb
            try simp only [Bool.or_eq_true, Bool.and_eq_true, Bool.or_eq_false_iff, Bool.and_eq_false_iff, decide_eq_true_eq, decide_eq_false_iff_not] at hb
            have hbt65 := hb
            refine AW.skip ?_
            refine AW.seq ?_
            refine AW.region (cfg := cfg) ?_
            iterate 1 (apply aops_step (by decide) rfl; · (intro K hK; simp (disch := first | omega | decide) only [go_sem, f0, cellsOf_lsa, lsaE_dec, bare_eq]; exact hK _))
            refine aops_nil ?_
            refine AW.ret ?_
            refine ⟨.inr rfl, ?_⟩
            refine leaves_tmp1 2 rfl ?_ (by exact hG)
            simp (disch := first | omega | decide) only [go_sem, f0, cellsOf_lsa, lsaE_dec, bare_eq]
            all_goals (rw [chE, ch_k4 hbt50, bnot_f hbt65]; rfl)
        case hf =>
          intro hb
          try simp only [Bool.or_eq_true, Bool.and_eq_true, Bool.or_eq_false_iff, Bool.and_eq_false_iff, decide_eq_true_eq, decide_eq_false_iff_not] at hb
          have hbt50 := hb
          refine AW.skip ?_
          refine AW.seq ?_
          refine AW.seq ?_
          refine AW.region (cfg := cfg) ?_
          iterate 2 (apply aops_step (by decide) rfl; · (intro K hK; simp (disch := first | omega | decide) only [go_sem, f0, cellsOf_lsa, lsaE_dec, bare_eq]; exact hK _))
          refine aops_nil ?_
          apply AW.cond
          · simp (disch := first | omega | decide) only [go_sem, f0, cellsOf_lsa, lsaE_dec, bare_eq]; rfl
          case ht =>
            intro hb
            try simp only [Bool.or_eq_true, Bool.and_eq_true, Bool.or_eq_false_iff, Bool.and_eq_false_iff, decide_eq_true_eq, decide_eq_false_iff_not] at hb
            have hbt65 := hb
            refine AW.seq ?_
            refine AW.region (cfg := cfg) ?_
            iterate 1 (apply aops_step (by decide) rfl; · (intro K hK; simp (disch := first | omega | decide) only [go_sem, f0, cellsOf_lsa, lsaE_dec, bare_eq]; exact hK _))
            refine aops_nil ?_
            refine AW.ret ?_
            refine ⟨.inr rfl, ?_⟩
            refine leaves_tmp1 2 rfl ?_ (by exact hG)
            simp (disch := first | omega | decide) only [go_sem, f0, cellsOf_lsa, lsaE_dec, bare_eq]
            all_goals (rw [chE, ch_k0 hbt6 hbt22 hbt36 hbt50]; rfl)
          case hf =>
            intro hb
            try simp only [Bool.or_eq_true, Bool.and_eq_true, Bool.or_eq_false_iff, Bool.and_eq_false_iff, decide_eq_true_eq, decide_eq_false_iff_not] at hb
            have hbt65 := hb
            refine AW.skip ?_
            refine AW.seq ?_
            refine AW.region (cfg := cfg) ?_
            iterate 1 (apply aops_step (by decide) rfl; · (intro K hK; simp (disch := first | omega | decide) only [go_sem, f0, cellsOf_lsa, lsaE_dec, bare_eq]; exact hK _))
            refine aops_nil ?_
            refine AW.ret ?_
            refine ⟨.inr rfl, ?_⟩
            refine leaves_tmp1 2 rfl ?_ (by exact hG)
            simp (disch := first | omega | decide) only [go_sem, f0, cellsOf_lsa, lsaE_dec, bare_eq]
            all_goals (exfalso; simp at hbt65; done)

theorem k2_ref {c : Ch} (h : c.kind = 2) : (((bare c && decide (c.n ≥ 1)) && decide (c.n ≤ 4611686018427387904)) && decide (c.of = 0)) = chOK c := by rw [ch_k2 h, wi, ← Bool.and_assoc]
theorem k3_ref {c : Ch} (h : c.kind = 3) : (((bare c && decide (c.n ≥ 1)) && decide (c.n ≤ 1073741824)) && decide (c.of = 0)) = chOK c := by rw [ch_k3 h, wi, ← Bool.and_assoc]
theorem k4_ref {c : Ch} (h : c.kind = 4) : ((((bare c && decide (c.n ≥ 1)) && decide (c.n ≤ 1073741824)) && decide (c.of ≥ 1)) && decide (c.of ≤ 64)) = chOK c := by rw [ch_k4 h, wi, wi]; simp only [Bool.and_assoc]
set_option maxHeartbeats 4000000 in
set_option maxRecDepth 100000 in
theorem good_refMayC (c : Ch) (hc : c.l.ls.length ≤ 9223372036854775807) : Good Try.prog 49 [(chA c, false)] [] [(.b (chOK c), false)] [] := by
  refine good_of_body2 84 Try.func49 rfl rfl rfl (by simp) ?_
  intro s m ha hr hv hG
  have f0 : s 0 = .v (.agg [i64 c.kind, i64 c.l.o, i64 c.l.s, .sl 2 c.l.nil (c.l.ls.map linkA), i64 c.n, i64 c.of]) := ha 0 _ rfl
  clear ha
  refine AW.seq ?_
  refine AW.region (cfg := cfg) ?_
  apply aops_step (by decide) rfl
  · intro K hK
    simp (disch := first | omega | decide) only [go_sem, f0, act_box_t ti74, List.map, cellsOf_lsa, lsaE_dec, bare_eq]
    rw [settleL_vish _ _ (by rfl)]
    simp (disch := first | omega | decide) only [go_sem, f0, cellsL, List.map, List.length_cons, List.length_nil, Nat.reduceAdd, if_true, cellsOf_lsa, lsaE_dec, bare_eq]
    exact hK _
  iterate 1 (apply aops_step (by decide) rfl; · (intro K hK; simp (disch := first | omega | decide) only [go_sem, f0, cellsOf_lsa, lsaE_dec, bare_eq]; exact hK _))
  refine aops_nil ?_
  refine AW.seq ?_
  refine AW.region (cfg := cfg) ?_
  apply aops_step (by decide) rfl
  · intro K hK
    simp (disch := first | omega | decide) only [go_sem, f0, act_fieldAddr_t fo74_1, List.map, cellsOf_lsa, lsaE_dec, bare_eq]
    rw [mwp_fieldAddr_b (by simp (disch := first | omega | decide) only [go_sem, f0, cellsOf_lsa, lsaE_dec, bare_eq]; rfl)]
    exact hK _
  apply aops_step (by decide) rfl
  · intro K hK
    simp (disch := first | omega | decide) only [go_sem, f0, act_load_t ti24, List.map, cellsOf_lsa, lsaE_dec, bare_eq]
    rw [mwp_load_bs (by simp (disch := first | omega | decide) only [go_sem, f0, cellsOf_lsa, lsaE_dec, bare_eq]; rfl) (by simp [setAt])]
    exact hK _
  apply aops_step (by decide) rfl
  · intro K hK
    simp (disch := first | omega | decide) only [go_sem, f0, act_build_t ti24 pl24, List.map, cellsOf_lsa, lsaE_dec, bare_eq]
    simp [-List.map_take, -List.map_drop, fillL, okOne, cellishAV, Value.oneCell', cellsL, cellsOf, setAt, M.bind, Mwp, mset_same, Obj.isArr]
    exact hK _
  apply aops_step (by decide) rfl
  · intro K hK
    simp (disch := first | omega | decide) only [go_sem, f0, act_call, List.map, cellsOf_lsa, lsaE_dec, bare_eq]
    apply mwp_call_s rfl rfl rfl
    · intro Q hQ
      (simp (disch := first | omega | decide) only [go_sem, f0, peekL, reifyL_nil, reifyL_cons, reify_v, cellsOf_lsa, lsaE_dec, bare_eq]; (exact hQ))
    · exact L.good_refSame c.l (by omega) lsa0 (by simp [lsa0])
    · simp [-List.map_take, -List.map_drop, -List.map_append, -List.map_replicate, -List.reduceReplicate, noPtrL, noPtr, noPtrL_bsl, noPtrL_map, sub]
    · rfl
    · exact hK _
  iterate 1 (apply aops_step (by decide) rfl; · (intro K hK; simp (disch := first | omega | decide) only [go_sem, f0, cellsOf_lsa, lsaE_dec, bare_eq]; exact hK _))
  refine aops_nil ?_
  refine AW.seq ?_
  refine AW.seq ?_
  refine AW.region (cfg := cfg) ?_
  apply aops_step (by decide) rfl
  · intro K hK
    simp (disch := first | omega | decide) only [go_sem, f0, act_fieldAddr_t fo74_0, List.map, cellsOf_lsa, lsaE_dec, bare_eq]
    rw [mwp_fieldAddr_b (by simp (disch := first | omega | decide) only [go_sem, f0, cellsOf_lsa, lsaE_dec, bare_eq]; rfl)]
    exact hK _
  apply aops_step (by decide) rfl
  · intro K hK
    simp (disch := first | omega | decide) only [go_sem, f0, act_load_t ti3, List.map, cellsOf_lsa, lsaE_dec, bare_eq]
    rw [mwp_load_b1 (by simp (disch := first | omega | decide) only [go_sem, f0, cellsOf_lsa, lsaE_dec, bare_eq]; rfl) (by rfl)]
    exact hK _
  refine aops_nil ?_
  refine AW.block ?_
  refine AW.seq ?_
  refine AW.region (cfg := cfg) ?_
  iterate 2 (apply aops_step (by decide) rfl; · (intro K hK; simp (disch := first | omega | decide) only [go_sem, f0, cellsOf_lsa, lsaE_dec, bare_eq]; exact hK _))
  refine aops_nil ?_
  apply AW.cond
  · simp (disch := first | omega | decide) only [go_sem, f0, cellsOf_lsa, lsaE_dec, bare_eq]; rfl
  case ht =>
    intro hb
    try simp only [Bool.or_eq_true, Bool.and_eq_true, Bool.or_eq_false_iff, Bool.and_eq_false_iff, decide_eq_true_eq, decide_eq_false_iff_not] at hb
    have hbt10 := hb
    refine AW.seq ?_
    refine AW.region (cfg := cfg) ?_
    apply aops_step (by decide) rfl
    · intro K hK
      simp (disch := first | omega | decide) only [go_sem, f0, act_fieldAddr_t fo74_1, List.map, cellsOf_lsa, lsaE_dec, bare_eq]
      rw [mwp_fieldAddr_b (by simp (disch := first | omega | decide) only [go_sem, f0, cellsOf_lsa, lsaE_dec, bare_eq]; rfl)]
      exact hK _
    apply aops_step (by decide) rfl
    · intro K hK
      simp (disch := first | omega | decide) only [go_sem, f0, act_load_t ti24, List.map, cellsOf_lsa, lsaE_dec, bare_eq]
      rw [mwp_load_bs (by simp (disch := first | omega | decide) only [go_sem, f0, cellsOf_lsa, lsaE_dec, bare_eq]; rfl) (by simp [setAt])]
      exact hK _
    apply aops_step (by decide) rfl
    · intro K hK
      simp (disch := first | omega | decide) only [go_sem, f0, act_call, List.map, cellsOf_lsa, lsaE_dec, bare_eq]
      apply mwp_call_s rfl rfl rfl
      · intro Q hQ
        (simp (disch := first | omega | decide) only [go_sem, f0, peekL, reifyL_nil, reifyL_cons, reify_v, cellsOf_lsa, lsaE_dec, bare_eq]; (exact hQ))
      · exact L.good_refMay c.l.o c.l.s c.l.nil c.l.ls (by omega)
      · simp [-List.map_take, -List.map_drop, -List.map_append, -List.map_replicate, -List.reduceReplicate, noPtrL, noPtr, noPtrL_bsl, noPtrL_map, sub]
      · rfl
      · exact hK _
    iterate 1 (apply aops_step (by decide) rfl; · (intro K hK; simp (disch := first | omega | decide) only [go_sem, f0, cellsOf_lsa, lsaE_dec, bare_eq]; exact hK _))
    apply aops_merge' (by decide) (by exact want_of (d := 15) rfl (by simp (disch := first | omega | decide) only [go_sem, f0, opn_cond, cellsOf_lsa, lsaE_dec, bare_eq]; rfl))
    · intro hc K hK
      have hc2 := hc
      simp only [beq_iff_eq, decide_eq_true_eq, decide_eq_false_iff_not, Bool.or_eq_true, Bool.and_eq_true, Bool.or_eq_false_iff, Bool.and_eq_false_iff] at hc2
      simp (disch := first | omega | decide) only [go_sem, f0, opn_cond, hc, if_true, act_fieldAddr_t fo74_2, cellsOf_lsa, lsaE_dec, bare_eq]
      rw [mwp_fieldAddr_b (by simp (disch := first | omega | decide) only [go_sem, f0, opn_cond, hc, if_true, cellsOf_lsa, lsaE_dec, bare_eq]; rfl)]
      exact hK _
    apply aops_merge' (by decide) (by exact want_of (d := 15) rfl (by simp (disch := first | omega | decide) only [go_sem, f0, opn_cond, cellsOf_lsa, lsaE_dec, bare_eq]; rfl))
    · intro hc K hK
      have hc2 := hc
      simp only [beq_iff_eq, decide_eq_true_eq, decide_eq_false_iff_not, Bool.or_eq_true, Bool.and_eq_true, Bool.or_eq_false_iff, Bool.and_eq_false_iff] at hc2
      simp (disch := first | omega | decide) only [go_sem, f0, opn_cond, hc, if_true, act_load_t ti3, cellsOf_lsa, lsaE_dec, bare_eq]
      rw [mwp_load_b1 (by simp (disch := first | omega | decide) only [go_sem, f0, opn_cond, hc, if_true, cellsOf_lsa, lsaE_dec, bare_eq]; rfl) (by rfl)]
      exact hK _
    apply aops_merge' (by decide) (by exact want_of (d := 15) rfl (by simp (disch := first | omega | decide) only [go_sem, f0, opn_cond, cellsOf_lsa, lsaE_dec, bare_eq]; rfl))
    · intro hc K hK
      have hc2 := hc
      simp only [beq_iff_eq, decide_eq_true_eq, decide_eq_false_iff_not, Bool.or_eq_true, Bool.and_eq_true, Bool.or_eq_false_iff, Bool.and_eq_false_iff] at hc2
      simp (disch := first | omega | decide) only [go_sem, f0, opn_cond, hc, if_true, cellsOf_lsa, lsaE_dec, bare_eq]
      exact hK _
    iterate 2 (apply aops_step (by decide) rfl; · (intro K hK; simp (disch := first | omega | decide) only [go_sem, f0, cellsOf_lsa, lsaE_dec, bare_eq]; exact hK _))
    apply aops_merge' (by decide) (by exact want_of (d := 20) rfl (by simp (disch := first | omega | decide) only [go_sem, f0, opn_cond, cellsOf_lsa, lsaE_dec, bare_eq]; rfl))
    · intro hc K hK
      have hc2 := hc
      simp only [beq_iff_eq, decide_eq_true_eq, decide_eq_false_iff_not, Bool.or_eq_true, Bool.and_eq_true, Bool.or_eq_false_iff, Bool.and_eq_false_iff] at hc2
      simp (disch := first | omega | decide) only [go_sem, f0, opn_cond, hc, if_true, act_fieldAddr_t fo74_3, cellsOf_lsa, lsaE_dec, bare_eq]
      rw [mwp_fieldAddr_b (by simp (disch := first | omega | decide) only [go_sem, f0, opn_cond, hc, if_true, cellsOf_lsa, lsaE_dec, bare_eq]; rfl)]
      exact hK _
    apply aops_merge' (by decide) (by exact want_of (d := 20) rfl (by simp (disch := first | omega | decide) only [go_sem, f0, opn_cond, cellsOf_lsa, lsaE_dec, bare_eq]; rfl))
    · intro hc K hK
      have hc2 := hc
      simp only [beq_iff_eq, decide_eq_true_eq, decide_eq_false_iff_not, Bool.or_eq_true, Bool.and_eq_true, Bool.or_eq_false_iff, Bool.and_eq_false_iff] at hc2
      simp (disch := first | omega | decide) only [go_sem, f0, opn_cond, hc, if_true, act_load_t ti3, cellsOf_lsa, lsaE_dec, bare_eq]
      rw [mwp_load_b1 (by simp (disch := first | omega | decide) only [go_sem, f0, opn_cond, hc, if_true, cellsOf_lsa, lsaE_dec, bare_eq]; rfl) (by rfl)]
      exact hK _
    apply aops_merge' (by decide) (by exact want_of (d := 20) rfl (by simp (disch := first | omega | decide) only [go_sem, f0, opn_cond, cellsOf_lsa, lsaE_dec, bare_eq]; rfl))
    · intro hc K hK
      have hc2 := hc
      simp only [beq_iff_eq, decide_eq_true_eq, decide_eq_false_iff_not, Bool.or_eq_true, Bool.and_eq_true, Bool.or_eq_false_iff, Bool.and_eq_false_iff] at hc2
      simp (disch := first | omega | decide) only [go_sem, f0, opn_cond, hc, if_true, cellsOf_lsa, lsaE_dec, bare_eq]
      exact hK _
    iterate 2 (apply aops_step (by decide) rfl; · (intro K hK; simp (disch := first | omega | decide) only [go_sem, f0, cellsOf_lsa, lsaE_dec, bare_eq]; exact hK _))
    refine aops_nil ?_
    refine AW.ret ?_
    refine ⟨.inr rfl, ?_⟩
    refine leaves_tmp1 2 rfl ?_ (by exact hG)
    simp (disch := first | omega | decide) only [go_sem, f0, cellsOf_lsa, lsaE_dec, bare_eq]
    all_goals (rw [ch_k1 hbt10]; done)
  case hf =>
    intro hb
    try simp only [Bool.or_eq_true, Bool.and_eq_true, Bool.or_eq_false_iff, Bool.and_eq_false_iff, decide_eq_true_eq, decide_eq_false_iff_not] at hb
    have hbt10 := hb
    refine AW.seq ?_
    refine AW.region (cfg := cfg) ?_
    iterate 2 (apply aops_step (by decide) rfl; · (intro K hK; simp (disch := first | omega | decide) only [go_sem, f0, cellsOf_lsa, lsaE_dec, bare_eq]; exact hK _))
    refine aops_nil ?_
    apply AW.cond
    · simp (disch := first | omega | decide) only [go_sem, f0, cellsOf_lsa, lsaE_dec, bare_eq]; rfl
    case ht =>
      intro hb
      try simp only [Bool.or_eq_true, Bool.and_eq_true, Bool.or_eq_false_iff, Bool.and_eq_false_iff, decide_eq_true_eq, decide_eq_false_iff_not] at hb
      have hbt25 := hb
      refine AW.seq ?_
      refine AW.region (cfg := cfg) ?_
      iterate 2 (apply aops_step (by decide) rfl; · (intro K hK; simp (disch := first | omega | decide) only [go_sem, f0, cellsOf_lsa, lsaE_dec, bare_eq]; exact hK _))
      apply aops_merge' (by decide) (by exact want_of (d := 28) rfl (by simp (disch := first | omega | decide) only [go_sem, f0, opn_cond, cellsOf_lsa, lsaE_dec, bare_eq]; rfl))
      · intro hc K hK
        have hc2 := hc
        simp only [beq_iff_eq, decide_eq_true_eq, decide_eq_false_iff_not, Bool.or_eq_true, Bool.and_eq_true, Bool.or_eq_false_iff, Bool.and_eq_false_iff] at hc2
        simp (disch := first | omega | decide) only [go_sem, f0, opn_cond, hc, if_true, act_fieldAddr_t fo74_2, cellsOf_lsa, lsaE_dec, bare_eq]
        rw [mwp_fieldAddr_b (by simp (disch := first | omega | decide) only [go_sem, f0, opn_cond, hc, if_true, cellsOf_lsa, lsaE_dec, bare_eq]; rfl)]
        exact hK _
      apply aops_merge' (by decide) (by exact want_of (d := 28) rfl (by simp (disch := first | omega | decide) only [go_sem, f0, opn_cond, cellsOf_lsa, lsaE_dec, bare_eq]; rfl))
      · intro hc K hK
        have hc2 := hc
        simp only [beq_iff_eq, decide_eq_true_eq, decide_eq_false_iff_not, Bool.or_eq_true, Bool.and_eq_true, Bool.or_eq_false_iff, Bool.and_eq_false_iff] at hc2
        simp (disch := first | omega | decide) only [go_sem, f0, opn_cond, hc, if_true, act_load_t ti3, cellsOf_lsa, lsaE_dec, bare_eq]
        rw [mwp_load_b1 (by simp (disch := first | omega | decide) only [go_sem, f0, opn_cond, hc, if_true, cellsOf_lsa, lsaE_dec, bare_eq]; rfl) (by rfl)]
        exact hK _
      apply aops_merge' (by decide) (by exact want_of (d := 28) rfl (by simp (disch := first | omega | decide) only [go_sem, f0, opn_cond, cellsOf_lsa, lsaE_dec, bare_eq]; rfl))
      · intro hc K hK
        have hc2 := hc
        simp only [beq_iff_eq, decide_eq_true_eq, decide_eq_false_iff_not, Bool.or_eq_true, Bool.and_eq_true, Bool.or_eq_false_iff, Bool.and_eq_false_iff] at hc2
        simp (disch := first | omega | decide) only [go_sem, f0, opn_cond, hc, if_true, cellsOf_lsa, lsaE_dec, bare_eq]
        exact hK _
      iterate 2 (apply aops_step (by decide) rfl; · (intro K hK; simp (disch := first | omega | decide) only [go_sem, f0, cellsOf_lsa, lsaE_dec, bare_eq]; exact hK _))
      apply aops_merge' (by decide) (by exact want_of (d := 33) rfl (by simp (disch := first | omega | decide) only [go_sem, f0, opn_cond, cellsOf_lsa, lsaE_dec, bare_eq]; rfl))
      · intro hc K hK
        have hc2 := hc
        simp only [beq_iff_eq, decide_eq_true_eq, decide_eq_false_iff_not, Bool.or_eq_true, Bool.and_eq_true, Bool.or_eq_false_iff, Bool.and_eq_false_iff] at hc2
        simp (disch := first | omega | decide) only [go_sem, f0, opn_cond, hc, if_true, act_fieldAddr_t fo74_2, cellsOf_lsa, lsaE_dec, bare_eq]
        rw [mwp_fieldAddr_b (by simp (disch := first | omega | decide) only [go_sem, f0, opn_cond, hc, if_true, cellsOf_lsa, lsaE_dec, bare_eq]; rfl)]
        exact hK _
      apply aops_merge' (by decide) (by exact want_of (d := 33) rfl (by simp (disch := first | omega | decide) only [go_sem, f0, opn_cond, cellsOf_lsa, lsaE_dec, bare_eq]; rfl))
      · intro hc K hK
        have hc2 := hc
        simp only [beq_iff_eq, decide_eq_true_eq, decide_eq_false_iff_not, Bool.or_eq_true, Bool.and_eq_true, Bool.or_eq_false_iff, Bool.and_eq_false_iff] at hc2
        simp (disch := first | omega | decide) only [go_sem, f0, opn_cond, hc, if_true, act_load_t ti3, cellsOf_lsa, lsaE_dec, bare_eq]
        rw [mwp_load_b1 (by simp (disch := first | omega | decide) only [go_sem, f0, opn_cond, hc, if_true, cellsOf_lsa, lsaE_dec, bare_eq]; rfl) (by rfl)]
        exact hK _
      apply aops_merge' (by decide) (by exact want_of (d := 33) rfl (by simp (disch := first | omega | decide) only [go_sem, f0, opn_cond, cellsOf_lsa, lsaE_dec, bare_eq]; rfl))
      · intro hc K hK
        have hc2 := hc
        simp only [beq_iff_eq, decide_eq_true_eq, decide_eq_false_iff_not, Bool.or_eq_true, Bool.and_eq_true, Bool.or_eq_false_iff, Bool.and_eq_false_iff] at hc2
        simp (disch := first | omega | decide) only [go_sem, f0, opn_cond, hc, if_true, cellsOf_lsa, lsaE_dec, bare_eq]
        exact hK _
      iterate 2 (apply aops_step (by decide) rfl; · (intro K hK; simp (disch := first | omega | decide) only [go_sem, f0, cellsOf_lsa, lsaE_dec, bare_eq]; exact hK _))
      apply aops_merge' (by decide) (by exact want_of (d := 38) rfl (by simp (disch := first | omega | decide) only [go_sem, f0, opn_cond, cellsOf_lsa, lsaE_dec, bare_eq]; rfl))
      · intro hc K hK
        have hc2 := hc
        simp only [beq_iff_eq, decide_eq_true_eq, decide_eq_false_iff_not, Bool.or_eq_true, Bool.and_eq_true, Bool.or_eq_false_iff, Bool.and_eq_false_iff] at hc2
        simp (disch := first | omega | decide) only [go_sem, f0, opn_cond, hc, if_true, act_fieldAddr_t fo74_3, cellsOf_lsa, lsaE_dec, bare_eq]
        rw [mwp_fieldAddr_b (by simp (disch := first | omega | decide) only [go_sem, f0, opn_cond, hc, if_true, cellsOf_lsa, lsaE_dec, bare_eq]; rfl)]
        exact hK _
      apply aops_merge' (by decide) (by exact want_of (d := 38) rfl (by simp (disch := first | omega | decide) only [go_sem, f0, opn_cond, cellsOf_lsa, lsaE_dec, bare_eq]; rfl))
      · intro hc K hK
        have hc2 := hc
        simp only [beq_iff_eq, decide_eq_true_eq, decide_eq_false_iff_not, Bool.or_eq_true, Bool.and_eq_true, Bool.or_eq_false_iff, Bool.and_eq_false_iff] at hc2
        simp (disch := first | omega | decide) only [go_sem, f0, opn_cond, hc, if_true, act_load_t ti3, cellsOf_lsa, lsaE_dec, bare_eq]
        rw [mwp_load_b1 (by simp (disch := first | omega | decide) only [go_sem, f0, opn_cond, hc, if_true, cellsOf_lsa, lsaE_dec, bare_eq]; rfl) (by rfl)]
        exact hK _
      apply aops_merge' (by decide) (by exact want_of (d := 38) rfl (by simp (disch := first | omega | decide) only [go_sem, f0, opn_cond, cellsOf_lsa, lsaE_dec, bare_eq]; rfl))
      · intro hc K hK
        have hc2 := hc
        simp only [beq_iff_eq, decide_eq_true_eq, decide_eq_false_iff_not, Bool.or_eq_true, Bool.and_eq_true, Bool.or_eq_false_iff, Bool.and_eq_false_iff] at hc2
        simp (disch := first | omega | decide) only [go_sem, f0, opn_cond, hc, if_true, cellsOf_lsa, lsaE_dec, bare_eq]
        exact hK _
      iterate 2 (apply aops_step (by decide) rfl; · (intro K hK; simp (disch := first | omega | decide) only [go_sem, f0, cellsOf_lsa, lsaE_dec, bare_eq]; exact hK _))
      refine aops_nil ?_
      refine AW.ret ?_
      refine ⟨.inr rfl, ?_⟩
      refine leaves_tmp1 2 rfl ?_ (by exact hG)
      simp (disch := first | omega | decide) only [go_sem, f0, cellsOf_lsa, lsaE_dec, bare_eq]
      all_goals (rw [k2_ref hbt25]; done)
    case hf =>
      intro hb
      try simp only [Bool.or_eq_true, Bool.and_eq_true, Bool.or_eq_false_iff, Bool.and_eq_false_iff, decide_eq_true_eq, decide_eq_false_iff_not] at hb
      have hbt25 := hb
      refine AW.seq ?_
      refine AW.region (cfg := cfg) ?_
      iterate 2 (apply aops_step (by decide) rfl; · (intro K hK; simp (disch := first | omega | decide) only [go_sem, f0, cellsOf_lsa, lsaE_dec, bare_eq]; exact hK _))
      refine aops_nil ?_
      apply AW.cond
      · simp (disch := first | omega | decide) only [go_sem, f0, cellsOf_lsa, lsaE_dec, bare_eq]; rfl
      case ht =>
        intro hb
        try simp only [Bool.or_eq_true, Bool.and_eq_true, Bool.or_eq_false_iff, Bool.and_eq_false_iff, decide_eq_true_eq, decide_eq_false_iff_not] at hb
        have hbt43 := hb
        refine AW.seq ?_
        refine AW.region (cfg := cfg) ?_
        iterate 2 (apply aops_step (by decide) rfl; · (intro K hK; simp (disch := first | omega | decide) only [go_sem, f0, cellsOf_lsa, lsaE_dec, bare_eq]; exact hK _))
        apply aops_merge' (by decide) (by exact want_of (d := 46) rfl (by simp (disch := first | omega | decide) only [go_sem, f0, opn_cond, cellsOf_lsa, lsaE_dec, bare_eq]; rfl))
        · intro hc K hK
          have hc2 := hc
          simp only [beq_iff_eq, decide_eq_true_eq, decide_eq_false_iff_not, Bool.or_eq_true, Bool.and_eq_true, Bool.or_eq_false_iff, Bool.and_eq_false_iff] at hc2
          simp (disch := first | omega | decide) only [go_sem, f0, opn_cond, hc, if_true, act_fieldAddr_t fo74_2, cellsOf_lsa, lsaE_dec, bare_eq]
          rw [mwp_fieldAddr_b (by simp (disch := first | omega | decide) only [go_sem, f0, opn_cond, hc, if_true, cellsOf_lsa, lsaE_dec, bare_eq]; rfl)]
          exact hK _
        apply aops_merge' (by decide) (by exact want_of (d := 46) rfl (by simp (disch := first | omega | decide) only [go_sem, f0, opn_cond, cellsOf_lsa, lsaE_dec, bare_eq]; rfl))
        · intro hc K hK
          have hc2 := hc
          simp only [beq_iff_eq, decide_eq_true_eq, decide_eq_false_iff_not, Bool.or_eq_true, Bool.and_eq_true, Bool.or_eq_false_iff, Bool.and_eq_false_iff] at hc2
          simp (disch := first | omega | decide) only [go_sem, f0, opn_cond, hc, if_true, act_load_t ti3, cellsOf_lsa, lsaE_dec, bare_eq]
          rw [mwp_load_b1 (by simp (disch := first | omega | decide) only [go_sem, f0, opn_cond, hc, if_true, cellsOf_lsa, lsaE_dec, bare_eq]; rfl) (by rfl)]
          exact hK _
        apply aops_merge' (by decide) (by exact want_of (d := 46) rfl (by simp (disch := first | omega | decide) only [go_sem, f0, opn_cond, cellsOf_lsa, lsaE_dec, bare_eq]; rfl))
        · intro hc K hK
          have hc2 := hc
          simp only [beq_iff_eq, decide_eq_true_eq, decide_eq_false_iff_not, Bool.or_eq_true, Bool.and_eq_true, Bool.or_eq_false_iff, Bool.and_eq_false_iff] at hc2
          simp (disch := first | omega | decide) only [go_sem, f0, opn_cond, hc, if_true, cellsOf_lsa, lsaE_dec, bare_eq]
          exact hK _
        iterate 2 (apply aops_step (by decide) rfl; · (intro K hK; simp (disch := first | omega | decide) only [go_sem, f0, cellsOf_lsa, lsaE_dec, bare_eq]; exact hK _))
        apply aops_merge' (by decide) (by exact want_of (d := 51) rfl (by simp (disch := first | omega | decide) only [go_sem, f0, opn_cond, cellsOf_lsa, lsaE_dec, bare_eq]; rfl))
        · intro hc K hK
          have hc2 := hc
          simp only [beq_iff_eq, decide_eq_true_eq, decide_eq_false_iff_not, Bool.or_eq_true, Bool.and_eq_true, Bool.or_eq_false_iff, Bool.and_eq_false_iff] at hc2
          simp (disch := first | omega | decide) only [go_sem, f0, opn_cond, hc, if_true, act_fieldAddr_t fo74_2, cellsOf_lsa, lsaE_dec, bare_eq]
          rw [mwp_fieldAddr_b (by simp (disch := first | omega | decide) only [go_sem, f0, opn_cond, hc, if_true, cellsOf_lsa, lsaE_dec, bare_eq]; rfl)]
          exact hK _
        apply aops_merge' (by decide) (by exact want_of (d := 51) rfl (by simp (disch := first | omega | decide) only [go_sem, f0, opn_cond, cellsOf_lsa, lsaE_dec, bare_eq]; rfl))
        · intro hc K hK
          have hc2 := hc
          simp only [beq_iff_eq, decide_eq_true_eq, decide_eq_false_iff_not, Bool.or_eq_true, Bool.and_eq_true, Bool.or_eq_false_iff, Bool.and_eq_false_iff] at hc2
          simp (disch := first | omega | decide) only [go_sem, f0, opn_cond, hc, if_true, act_load_t ti3, cellsOf_lsa, lsaE_dec, bare_eq]
          rw [mwp_load_b1 (by simp (disch := first | omega | decide) only [go_sem, f0, opn_cond, hc, if_true, cellsOf_lsa, lsaE_dec, bare_eq]; rfl) (by rfl)]
          exact hK _
        apply aops_merge' (by decide) (by exact want_of (d := 51) rfl (by simp (disch := first | omega | decide) only [go_sem, f0, opn_cond, cellsOf_lsa, lsaE_dec, bare_eq]; rfl))
        · intro hc K hK
          have hc2 := hc
          simp only [beq_iff_eq, decide_eq_true_eq, decide_eq_false_iff_not, Bool.or_eq_true, Bool.and_eq_true, Bool.or_eq_false_iff, Bool.and_eq_false_iff] at hc2
          simp (disch := first | omega | decide) only [go_sem, f0, opn_cond, hc, if_true, cellsOf_lsa, lsaE_dec, bare_eq]
          exact hK _
        iterate 2 (apply aops_step (by decide) rfl; · (intro K hK; simp (disch := first | omega | decide) only [go_sem, f0, cellsOf_lsa, lsaE_dec, bare_eq]; exact hK _))
        apply aops_merge' (by decide) (by exact want_of (d := 56) rfl (by simp (disch := first | omega | decide) only [go_sem, f0, opn_cond, cellsOf_lsa, lsaE_dec, bare_eq]; rfl))
        · intro hc K hK
          have hc2 := hc
          simp only [beq_iff_eq, decide_eq_true_eq, decide_eq_false_iff_not, Bool.or_eq_true, Bool.and_eq_true, Bool.or_eq_false_iff, Bool.and_eq_false_iff] at hc2
          simp (disch := first | omega | decide) only [go_sem, f0, opn_cond, hc, if_true, act_fieldAddr_t fo74_3, cellsOf_lsa, lsaE_dec, bare_eq]
          rw [mwp_fieldAddr_b (by simp (disch := first | omega | decide) only [go_sem, f0, opn_cond, hc, if_true, cellsOf_lsa, lsaE_dec, bare_eq]; rfl)]
          exact hK _
        apply aops_merge' (by decide) (by exact want_of (d := 56) rfl (by simp (disch := first | omega | decide) only [go_sem, f0, opn_cond, cellsOf_lsa, lsaE_dec, bare_eq]; rfl))
        · intro hc K hK
          have hc2 := hc
          simp only [beq_iff_eq, decide_eq_true_eq, decide_eq_false_iff_not, Bool.or_eq_true, Bool.and_eq_true, Bool.or_eq_false_iff, Bool.and_eq_false_iff] at hc2
          simp (disch := first | omega | decide) only [go_sem, f0, opn_cond, hc, if_true, act_load_t ti3, cellsOf_lsa, lsaE_dec, bare_eq]
          rw [mwp_load_b1 (by simp (disch := first | omega | decide) only [go_sem, f0, opn_cond, hc, if_true, cellsOf_lsa, lsaE_dec, bare_eq]; rfl) (by rfl)]
          exact hK _
        apply aops_merge' (by decide) (by exact want_of (d := 56) rfl (by simp (disch := first | omega | decide) only [go_sem, f0, opn_cond, cellsOf_lsa, lsaE_dec, bare_eq]; rfl))
        · intro hc K hK
          have hc2 := hc
          simp only [beq_iff_eq, decide_eq_true_eq, decide_eq_false_iff_not, Bool.or_eq_true, Bool.and_eq_true, Bool.or_eq_false_iff, Bool.and_eq_false_iff] at hc2
          simp (disch := first | omega | decide) only [go_sem, f0, opn_cond, hc, if_true, cellsOf_lsa, lsaE_dec, bare_eq]
          exact hK _
        iterate 2 (apply aops_step (by decide) rfl; · (intro K hK; simp (disch := first | omega | decide) only [go_sem, f0, cellsOf_lsa, lsaE_dec, bare_eq]; exact hK _))
        refine aops_nil ?_
        refine AW.ret ?_
        refine ⟨.inr rfl, ?_⟩
        refine leaves_tmp1 2 rfl ?_ (by exact hG)
        simp (disch := first | omega | decide) only [go_sem, f0, cellsOf_lsa, lsaE_dec, bare_eq]
        all_goals (rw [k3_ref hbt43]; done)
      case hf =>
        intro hb
        try simp only [Bool.or_eq_true, Bool.and_eq_true, Bool.or_eq_false_iff, Bool.and_eq_false_iff, decide_eq_true_eq, decide_eq_false_iff_not] at hb
        have hbt43 := hb
        refine AW.seq ?_
        refine AW.region (cfg := cfg) ?_
        iterate 2 (apply aops_step (by decide) rfl; · (intro K hK; simp (disch := first | omega | decide) only [go_sem, f0, cellsOf_lsa, lsaE_dec, bare_eq]; exact hK _))
        refine aops_nil ?_
        apply AW.cond
        · simp (disch := first | omega | decide) only [go_sem, f0, cellsOf_lsa, lsaE_dec, bare_eq]; rfl
        case ht =>
          intro hb
          try simp only [Bool.or_eq_true, Bool.and_eq_true, Bool.or_eq_false_iff, Bool.and_eq_false_iff, decide_eq_true_eq, decide_eq_false_iff_not] at hb
          have hbt61 := hb
          refine AW.seq ?_
          refine AW.region (cfg := cfg) ?_
          iterate 2 (apply aops_step (by decide) rfl; · (intro K hK; simp (disch := first | omega | decide) only [go_sem, f0, cellsOf_lsa, lsaE_dec, bare_eq]; exact hK _))
          apply aops_merge' (by decide) (by exact want_of (d := 64) rfl (by simp (disch := first | omega | decide) only [go_sem, f0, opn_cond, cellsOf_lsa, lsaE_dec, bare_eq]; rfl))
          · intro hc K hK
            have hc2 := hc
            simp only [beq_iff_eq, decide_eq_true_eq, decide_eq_false_iff_not, Bool.or_eq_true, Bool.and_eq_true, Bool.or_eq_false_iff, Bool.and_eq_false_iff] at hc2
            simp (disch := first | omega | decide) only [go_sem, f0, opn_cond, hc, if_true, act_fieldAddr_t fo74_2, cellsOf_lsa, lsaE_dec, bare_eq]
            rw [mwp_fieldAddr_b (by simp (disch := first | omega | decide) only [go_sem, f0, opn_cond, hc, if_true, cellsOf_lsa, lsaE_dec, bare_eq]; rfl)]
            exact hK _
          apply aops_merge' (by decide) (by exact want_of (d := 64) rfl (by simp (disch := first | omega | decide) only [go_sem, f0, opn_cond, cellsOf_lsa, lsaE_dec, bare_eq]; rfl))
          · intro hc K hK
            have hc2 := hc
            simp only [beq_iff_eq, decide_eq_true_eq, decide_eq_false_iff_not, Bool.or_eq_true, Bool.and_eq_true, Bool.or_eq_false_iff, Bool.and_eq_false_iff] at hc2
            simp (disch := first | omega | decide) only [go_sem, f0, opn_cond, hc, if_true, act_load_t ti3, cellsOf_lsa, lsaE_dec, bare_eq]
            rw [mwp_load_b1 (by simp (disch := first | omega | decide) only [go_sem, f0, opn_cond, hc, if_true, cellsOf_lsa, lsaE_dec, bare_eq]; rfl) (by rfl)]
            exact hK _
          apply aops_merge' (by decide) (by exact want_of (d := 64) rfl (by simp (disch := first | omega | decide) only [go_sem, f0, opn_cond, cellsOf_lsa, lsaE_dec, bare_eq]; rfl))
          · intro hc K hK
            have hc2 := hc
            simp only [beq_iff_eq, decide_eq_true_eq, decide_eq_false_iff_not, Bool.or_eq_true, Bool.and_eq_true, Bool.or_eq_false_iff, Bool.and_eq_false_iff] at hc2
            simp (disch := first | omega | decide) only [go_sem, f0, opn_cond, hc, if_true, cellsOf_lsa, lsaE_dec, bare_eq]
            exact hK _
          iterate 2 (apply aops_step (by decide) rfl; · (intro K hK; simp (disch := first | omega | decide) only [go_sem, f0, cellsOf_lsa, lsaE_dec, bare_eq]; exact hK _))
          apply aops_merge' (by decide) (by exact want_of (d := 69) rfl (by simp (disch := first | omega | decide) only [go_sem, f0, opn_cond, cellsOf_lsa, lsaE_dec, bare_eq]; rfl))
          · intro hc K hK
            have hc2 := hc
            simp only [beq_iff_eq, decide_eq_true_eq, decide_eq_false_iff_not, Bool.or_eq_true, Bool.and_eq_true, Bool.or_eq_false_iff, Bool.and_eq_false_iff] at hc2
            simp (disch := first | omega | decide) only [go_sem, f0, opn_cond, hc, if_true, act_fieldAddr_t fo74_2, cellsOf_lsa, lsaE_dec, bare_eq]
            rw [mwp_fieldAddr_b (by simp (disch := first | omega | decide) only [go_sem, f0, opn_cond, hc, if_true, cellsOf_lsa, lsaE_dec, bare_eq]; rfl)]
            exact hK _
          apply aops_merge' (by decide) (by exact want_of (d := 69) rfl (by simp (disch := first | omega | decide) only [go_sem, f0, opn_cond, cellsOf_lsa, lsaE_dec, bare_eq]; rfl))
          · intro hc K hK
            have hc2 := hc
            simp only [beq_iff_eq, decide_eq_true_eq, decide_eq_false_iff_not, Bool.or_eq_true, Bool.and_eq_true, Bool.or_eq_false_iff, Bool.and_eq_false_iff] at hc2
            simp (disch := first | omega | decide) only [go_sem, f0, opn_cond, hc, if_true, act_load_t ti3, cellsOf_lsa, lsaE_dec, bare_eq]
            rw [mwp_load_b1 (by simp (disch := first | omega | decide) only [go_sem, f0, opn_cond, hc, if_true, cellsOf_lsa, lsaE_dec, bare_eq]; rfl) (by rfl)]
            exact hK _
          apply aops_merge' (by decide) (by exact want_of (d := 69) rfl (by simp (disch := first | omega | decide) only [go_sem, f0, opn_cond, cellsOf_lsa, lsaE_dec, bare_eq]; rfl))
          · intro hc K hK
            have hc2 := hc
            simp only [beq_iff_eq, decide_eq_true_eq, decide_eq_false_iff_not, Bool.or_eq_true, Bool.and_eq_true, Bool.or_eq_false_iff, Bool.and_eq_false_iff] at hc2
            simp (disch := first | omega | decide) only [go_sem, f0, opn_cond, hc, if_true, cellsOf_lsa, lsaE_dec, bare_eq]
            exact hK _
          iterate 2 (apply aops_step (by decide) rfl; · (intro K hK; simp (disch := first | omega | decide) only [go_sem, f0, cellsOf_lsa, lsaE_dec, bare_eq]; exact hK _))
          apply aops_merge' (by decide) (by exact want_of (d := 74) rfl (by simp (disch := first | omega | decide) only [go_sem, f0, opn_cond, cellsOf_lsa, lsaE_dec, bare_eq]; rfl))
          · intro hc K hK
            have hc2 := hc
            simp only [beq_iff_eq, decide_eq_true_eq, decide_eq_false_iff_not, Bool.or_eq_true, Bool.and_eq_true, Bool.or_eq_false_iff, Bool.and_eq_false_iff] at hc2
            simp (disch := first | omega | decide) only [go_sem, f0, opn_cond, hc, if_true, act_fieldAddr_t fo74_3, cellsOf_lsa, lsaE_dec, bare_eq]
            rw [mwp_fieldAddr_b (by simp (disch := first | omega | decide) only [go_sem, f0, opn_cond, hc, if_true, cellsOf_lsa, lsaE_dec, bare_eq]; rfl)]
            exact hK _
          apply aops_merge' (by decide) (by exact want_of (d := 74) rfl (by simp (disch := first | omega | decide) only [go_sem, f0, opn_cond, cellsOf_lsa, lsaE_dec, bare_eq]; rfl))
          · intro hc K hK
            have hc2 := hc
            simp only [beq_iff_eq, decide_eq_true_eq, decide_eq_false_iff_not, Bool.or_eq_true, Bool.and_eq_true, Bool.or_eq_false_iff, Bool.and_eq_false_iff] at hc2
            simp (disch := first | omega | decide) only [go_sem, f0, opn_cond, hc, if_true, act_load_t ti3, cellsOf_lsa, lsaE_dec, bare_eq]
            rw [mwp_load_b1 (by simp (disch := first | omega | decide) only [go_sem, f0, opn_cond, hc, if_true, cellsOf_lsa, lsaE_dec, bare_eq]; rfl) (by rfl)]
            exact hK _
          apply aops_merge' (by decide) (by exact want_of (d := 74) rfl (by simp (disch := first | omega | decide) only [go_sem, f0, opn_cond, cellsOf_lsa, lsaE_dec, bare_eq]; rfl))
          · intro hc K hK
            have hc2 := hc
            simp only [beq_iff_eq, decide_eq_true_eq, decide_eq_false_iff_not, Bool.or_eq_true, Bool.and_eq_true, Bool.or_eq_false_iff, Bool.and_eq_false_iff] at hc2
            simp (disch := first | omega | decide) only [go_sem, f0, opn_cond, hc, if_true, cellsOf_lsa, lsaE_dec, bare_eq]
            exact hK _
          iterate 2 (apply aops_step (by decide) rfl; · (intro K hK; simp (disch := first | omega | decide) only [go_sem, f0, cellsOf_lsa, lsaE_dec, bare_eq]; exact hK _))
          apply aops_merge' (by decide) (by exact want_of (d := 79) rfl (by simp (disch := first | omega | decide) only [go_sem, f0, opn_cond, cellsOf_lsa, lsaE_dec, bare_eq]; rfl))
          · intro hc K hK
            have hc2 := hc
            simp only [beq_iff_eq, decide_eq_true_eq, decide_eq_false_iff_not, Bool.or_eq_true, Bool.and_eq_true, Bool.or_eq_false_iff, Bool.and_eq_false_iff] at hc2
            simp (disch := first | omega | decide) only [go_sem, f0, opn_cond, hc, if_true, act_fieldAddr_t fo74_3, cellsOf_lsa, lsaE_dec, bare_eq]
            rw [mwp_fieldAddr_b (by simp (disch := first | omega | decide) only [go_sem, f0, opn_cond, hc, if_true, cellsOf_lsa, lsaE_dec, bare_eq]; rfl)]
            exact hK _
          apply aops_merge' (by decide) (by exact want_of (d := 79) rfl (by simp (disch := first | omega | decide) only [go_sem, f0, opn_cond, cellsOf_lsa, lsaE_dec, bare_eq]; rfl))
          · intro hc K hK
            have hc2 := hc
            simp only [beq_iff_eq, decide_eq_true_eq, decide_eq_false_iff_not, Bool.or_eq_true, Bool.and_eq_true, Bool.or_eq_false_iff, Bool.and_eq_false_iff] at hc2
            simp (disch := first | omega | decide) only [go_sem, f0, opn_cond, hc, if_true, act_load_t ti3, cellsOf_lsa, lsaE_dec, bare_eq]
            rw [mwp_load_b1 (by simp (disch := first | omega | decide) only [go_sem, f0, opn_cond, hc, if_true, cellsOf_lsa, lsaE_dec, bare_eq]; rfl) (by rfl)]
            exact hK _
          apply aops_merge' (by decide) (by exact want_of (d := 79) rfl (by simp (disch := first | omega | decide) only [go_sem, f0, opn_cond, cellsOf_lsa, lsaE_dec, bare_eq]; rfl))
          · intro hc K hK
            have hc2 := hc
            simp only [beq_iff_eq, decide_eq_true_eq, decide_eq_false_iff_not, Bool.or_eq_true, Bool.and_eq_true, Bool.or_eq_false_iff, Bool.and_eq_false_iff] at hc2
            simp (disch := first | omega | decide) only [go_sem, f0, opn_cond, hc, if_true, cellsOf_lsa, lsaE_dec, bare_eq]
            exact hK _
          iterate 2 (apply aops_step (by decide) rfl; · (intro K hK; simp (disch := first | omega | decide) only [go_sem, f0, cellsOf_lsa, lsaE_dec, bare_eq]; exact hK _))
          refine aops_nil ?_
          refine AW.ret ?_
          refine ⟨.inr rfl, ?_⟩
          refine leaves_tmp1 2 rfl ?_ (by exact hG)
          simp (disch := first | omega | decide) only [go_sem, f0, cellsOf_lsa, lsaE_dec, bare_eq]
          all_goals (rw [k4_ref hbt61]; done)
        case hf =>
          intro hb
          try simp only [Bool.or_eq_true, Bool.and_eq_true, Bool.or_eq_false_iff, Bool.and_eq_false_iff, decide_eq_true_eq, decide_eq_false_iff_not] at hb
          have hbt61 := hb
          refine AW.skip ?_
          refine AW.seq ?_
          refine AW.region (cfg := cfg) ?_
          iterate 1 (apply aops_step (by decide) rfl; · (intro K hK; simp (disch := first | omega | decide) only [go_sem, f0, cellsOf_lsa, lsaE_dec, bare_eq]; exact hK _))
          refine aops_nil ?_
          refine AW.ret ?_
          refine ⟨.inr rfl, ?_⟩
          refine leaves_tmp1 2 rfl ?_ (by exact hG)
          simp (disch := first | omega | decide) only [go_sem, f0, cellsOf_lsa, lsaE_dec, bare_eq]
          all_goals (rw [ch_k0 hbt10 hbt25 hbt43 hbt61]; done)

set_option maxHeartbeats 4000000 in
set_option maxRecDepth 100000 in
theorem good_refSameC (c : Ch) (hc : c.l.ls.length ≤ 9223372036854775807)(d : Ch) (hd : d.l.ls.length ≤ 9223372036854775807) : Good Try.prog 51 [(chA c, false), (chA d, false)] [] [(.b (chEq c d), false)] [] := by
  refine good_of_body2 31 Try.func51 rfl rfl rfl (by simp) ?_
  intro s m ha hr hv hG
  have f0 : s 0 = .v (.agg [i64 c.kind, i64 c.l.o, i64 c.l.s, .sl 2 c.l.nil (c.l.ls.map linkA), i64 c.n, i64 c.of]) := ha 0 _ rfl
  have f1 : s 1 = .v (.agg [i64 d.kind, i64 d.l.o, i64 d.l.s, .sl 2 d.l.nil (d.l.ls.map linkA), i64 d.n, i64 d.of]) := ha 1 _ rfl
  clear ha
  refine AW.seq ?_
  refine AW.region (cfg := cfg) ?_
  apply aops_step (by decide) rfl
  · intro K hK
    simp (disch := first | omega | decide) only [go_sem, f0, f1, act_box_t ti74, List.map, cellsOf_lsa, lsaE_dec, bare_eq]
    rw [settleL_vish _ _ (by rfl)]
    simp (disch := first | omega | decide) only [go_sem, f0, f1, cellsL, List.map, List.length_cons, List.length_nil, Nat.reduceAdd, if_true, cellsOf_lsa, lsaE_dec, bare_eq]
    exact hK _
  apply aops_step (by decide) rfl
  · intro K hK
    simp (disch := first | omega | decide) only [go_sem, f0, f1, act_box_t ti74, List.map, cellsOf_lsa, lsaE_dec, bare_eq]
    rw [settleL_vish _ _ (by rfl)]
    simp (disch := first | omega | decide) only [go_sem, f0, f1, cellsL, List.map, List.length_cons, List.length_nil, Nat.reduceAdd, if_true, cellsOf_lsa, lsaE_dec, bare_eq]
    exact hK _
  iterate 1 (apply aops_step (by decide) rfl; · (intro K hK; simp (disch := first | omega | decide) only [go_sem, f0, f1, cellsOf_lsa, lsaE_dec, bare_eq]; exact hK _))
  refine aops_nil ?_
  refine AW.seq ?_
  refine AW.region (cfg := cfg) ?_
  apply aops_step (by decide) rfl
  · intro K hK
    simp (disch := first | omega | decide) only [go_sem, f0, f1, act_fieldAddr_t fo74_0, List.map, cellsOf_lsa, lsaE_dec, bare_eq]
    rw [mwp_fieldAddr_b (by simp (disch := first | omega | decide) only [go_sem, f0, f1, cellsOf_lsa, lsaE_dec, bare_eq]; rfl)]
    exact hK _
  apply aops_step (by decide) rfl
  · intro K hK
    simp (disch := first | omega | decide) only [go_sem, f0, f1, act_load_t ti3, List.map, cellsOf_lsa, lsaE_dec, bare_eq]
    rw [mwp_load_b1 (by simp (disch := first | omega | decide) only [go_sem, f0, f1, cellsOf_lsa, lsaE_dec, bare_eq]; rfl) (by rfl)]
    exact hK _
  apply aops_step (by decide) rfl
  · intro K hK
    simp (disch := first | omega | decide) only [go_sem, f0, f1, act_fieldAddr_t fo74_0, List.map, cellsOf_lsa, lsaE_dec, bare_eq]
    rw [mwp_fieldAddr_b (by simp (disch := first | omega | decide) only [go_sem, f0, f1, cellsOf_lsa, lsaE_dec, bare_eq]; rfl)]
    exact hK _
  apply aops_step (by decide) rfl
  · intro K hK
    simp (disch := first | omega | decide) only [go_sem, f0, f1, act_load_t ti3, List.map, cellsOf_lsa, lsaE_dec, bare_eq]
    rw [mwp_load_b1 (by simp (disch := first | omega | decide) only [go_sem, f0, f1, cellsOf_lsa, lsaE_dec, bare_eq]; rfl) (by rfl)]
    exact hK _
  iterate 2 (apply aops_step (by decide) rfl; · (intro K hK; simp (disch := first | omega | decide) only [go_sem, f0, f1, cellsOf_lsa, lsaE_dec, bare_eq]; exact hK _))
  apply aops_merge' (by decide) (by exact want_of (d := 10) rfl (by simp (disch := first | omega | decide) only [go_sem, f0, f1, opn_cond, cellsOf_lsa, lsaE_dec, bare_eq]; rfl))
  · intro hc K hK
    have hc2 := hc
    simp only [beq_iff_eq, decide_eq_true_eq, decide_eq_false_iff_not, Bool.or_eq_true, Bool.and_eq_true, Bool.or_eq_false_iff, Bool.and_eq_false_iff] at hc2
    simp (disch := first | omega | decide) only [go_sem, f0, f1, opn_cond, hc, if_true, act_fieldAddr_t fo74_1, cellsOf_lsa, lsaE_dec, bare_eq]
    rw [mwp_fieldAddr_b (by simp (disch := first | omega | decide) only [go_sem, f0, f1, opn_cond, hc, if_true, cellsOf_lsa, lsaE_dec, bare_eq]; rfl)]
    exact hK _
  apply aops_merge' (by decide) (by exact want_of (d := 10) rfl (by simp (disch := first | omega | decide) only [go_sem, f0, f1, opn_cond, cellsOf_lsa, lsaE_dec, bare_eq]; rfl))
  · intro hc K hK
    have hc2 := hc
    simp only [beq_iff_eq, decide_eq_true_eq, decide_eq_false_iff_not, Bool.or_eq_true, Bool.and_eq_true, Bool.or_eq_false_iff, Bool.and_eq_false_iff] at hc2
    simp (disch := first | omega | decide) only [go_sem, f0, f1, opn_cond, hc, if_true, act_load_t ti24, cellsOf_lsa, lsaE_dec, bare_eq]
    rw [mwp_load_bs (by simp (disch := first | omega | decide) only [go_sem, f0, f1, opn_cond, hc, if_true, cellsOf_lsa, lsaE_dec, bare_eq]; rfl) (by simp [setAt])]
    exact hK _
  apply aops_merge' (by decide) (by exact want_of (d := 10) rfl (by simp (disch := first | omega | decide) only [go_sem, f0, f1, opn_cond, cellsOf_lsa, lsaE_dec, bare_eq]; rfl))
  · intro hc K hK
    have hc2 := hc
    simp only [beq_iff_eq, decide_eq_true_eq, decide_eq_false_iff_not, Bool.or_eq_true, Bool.and_eq_true, Bool.or_eq_false_iff, Bool.and_eq_false_iff] at hc2
    simp (disch := first | omega | decide) only [go_sem, f0, f1, opn_cond, hc, if_true, act_fieldAddr_t fo74_1, cellsOf_lsa, lsaE_dec, bare_eq]
    rw [mwp_fieldAddr_b (by simp (disch := first | omega | decide) only [go_sem, f0, f1, opn_cond, hc, if_true, cellsOf_lsa, lsaE_dec, bare_eq]; rfl)]
    exact hK _
  apply aops_merge' (by decide) (by exact want_of (d := 10) rfl (by simp (disch := first | omega | decide) only [go_sem, f0, f1, opn_cond, cellsOf_lsa, lsaE_dec, bare_eq]; rfl))
  · intro hc K hK
    have hc2 := hc
    simp only [beq_iff_eq, decide_eq_true_eq, decide_eq_false_iff_not, Bool.or_eq_true, Bool.and_eq_true, Bool.or_eq_false_iff, Bool.and_eq_false_iff] at hc2
    simp (disch := first | omega | decide) only [go_sem, f0, f1, opn_cond, hc, if_true, act_load_t ti24, cellsOf_lsa, lsaE_dec, bare_eq]
    rw [mwp_load_bs (by simp (disch := first | omega | decide) only [go_sem, f0, f1, opn_cond, hc, if_true, cellsOf_lsa, lsaE_dec, bare_eq]; rfl) (by simp [setAt])]
    exact hK _
  apply aops_merge' (by decide) (by exact want_of (d := 10) rfl (by simp (disch := first | omega | decide) only [go_sem, f0, f1, opn_cond, cellsOf_lsa, lsaE_dec, bare_eq]; rfl))
  · intro hc K hK
    have hc2 := hc
    simp only [beq_iff_eq, decide_eq_true_eq, decide_eq_false_iff_not, Bool.or_eq_true, Bool.and_eq_true, Bool.or_eq_false_iff, Bool.and_eq_false_iff] at hc2
    simp (disch := first | omega | decide) only [go_sem, f0, f1, opn_cond, hc, if_true, act_call, List.map, cellsOf_lsa, lsaE_dec, bare_eq]
    apply mwp_call_s rfl rfl rfl
    · intro Q hQ
      (simp (disch := first | omega | decide) only [go_sem, f0, f1, opn_cond, hc, if_true, peekL, reifyL_nil, reifyL_cons, reify_v, cellsOf_lsa, lsaE_dec, bare_eq]; (exact hQ))
    · exact L.good_refSame c.l (by omega) d.l (by omega)
    · simp [-List.map_take, -List.map_drop, -List.map_append, -List.map_replicate, -List.reduceReplicate, noPtrL, noPtr, noPtrL_bsl, noPtrL_map, sub]
    · rfl
    · exact hK _
  iterate 2 (apply aops_step (by decide) rfl; · (intro K hK; simp (disch := first | omega | decide) only [go_sem, f0, f1, cellsOf_lsa, lsaE_dec, bare_eq]; exact hK _))
  apply aops_merge' (by decide) (by exact want_of (d := 17) rfl (by simp (disch := first | omega | decide) only [go_sem, f0, f1, opn_cond, cellsOf_lsa, lsaE_dec, bare_eq]; rfl))
  · intro hc K hK
    have hc2 := hc
    simp only [beq_iff_eq, decide_eq_true_eq, decide_eq_false_iff_not, Bool.or_eq_true, Bool.and_eq_true, Bool.or_eq_false_iff, Bool.and_eq_false_iff] at hc2
    simp (disch := first | omega | decide) only [go_sem, f0, f1, opn_cond, hc, if_true, act_fieldAddr_t fo74_2, cellsOf_lsa, lsaE_dec, bare_eq]
    rw [mwp_fieldAddr_b (by simp (disch := first | omega | decide) only [go_sem, f0, f1, opn_cond, hc, if_true, cellsOf_lsa, lsaE_dec, bare_eq]; rfl)]
    exact hK _
  apply aops_merge' (by decide) (by exact want_of (d := 17) rfl (by simp (disch := first | omega | decide) only [go_sem, f0, f1, opn_cond, cellsOf_lsa, lsaE_dec, bare_eq]; rfl))
  · intro hc K hK
    have hc2 := hc
    simp only [beq_iff_eq, decide_eq_true_eq, decide_eq_false_iff_not, Bool.or_eq_true, Bool.and_eq_true, Bool.or_eq_false_iff, Bool.and_eq_false_iff] at hc2
    simp (disch := first | omega | decide) only [go_sem, f0, f1, opn_cond, hc, if_true, act_load_t ti3, cellsOf_lsa, lsaE_dec, bare_eq]
    rw [mwp_load_b1 (by simp (disch := first | omega | decide) only [go_sem, f0, f1, opn_cond, hc, if_true, cellsOf_lsa, lsaE_dec, bare_eq]; rfl) (by rfl)]
    exact hK _
  apply aops_merge' (by decide) (by exact want_of (d := 17) rfl (by simp (disch := first | omega | decide) only [go_sem, f0, f1, opn_cond, cellsOf_lsa, lsaE_dec, bare_eq]; rfl))
  · intro hc K hK
    have hc2 := hc
    simp only [beq_iff_eq, decide_eq_true_eq, decide_eq_false_iff_not, Bool.or_eq_true, Bool.and_eq_true, Bool.or_eq_false_iff, Bool.and_eq_false_iff] at hc2
    simp (disch := first | omega | decide) only [go_sem, f0, f1, opn_cond, hc, if_true, act_fieldAddr_t fo74_2, cellsOf_lsa, lsaE_dec, bare_eq]
    rw [mwp_fieldAddr_b (by simp (disch := first | omega | decide) only [go_sem, f0, f1, opn_cond, hc, if_true, cellsOf_lsa, lsaE_dec, bare_eq]; rfl)]
    exact hK _
  apply aops_merge' (by decide) (by exact want_of (d := 17) rfl (by simp (disch := first | omega | decide) only [go_sem, f0, f1, opn_cond, cellsOf_lsa, lsaE_dec, bare_eq]; rfl))
  · intro hc K hK
    have hc2 := hc
    simp only [beq_iff_eq, decide_eq_true_eq, decide_eq_false_iff_not, Bool.or_eq_true, Bool.and_eq_true, Bool.or_eq_false_iff, Bool.and_eq_false_iff] at hc2
    simp (disch := first | omega | decide) only [go_sem, f0, f1, opn_cond, hc, if_true, act_load_t ti3, cellsOf_lsa, lsaE_dec, bare_eq]
    rw [mwp_load_b1 (by simp (disch := first | omega | decide) only [go_sem, f0, f1, opn_cond, hc, if_true, cellsOf_lsa, lsaE_dec, bare_eq]; rfl) (by rfl)]
    exact hK _
  apply aops_merge' (by decide) (by exact want_of (d := 17) rfl (by simp (disch := first | omega | decide) only [go_sem, f0, f1, opn_cond, cellsOf_lsa, lsaE_dec, bare_eq]; rfl))
  · intro hc K hK
    have hc2 := hc
    simp only [beq_iff_eq, decide_eq_true_eq, decide_eq_false_iff_not, Bool.or_eq_true, Bool.and_eq_true, Bool.or_eq_false_iff, Bool.and_eq_false_iff] at hc2
    simp (disch := first | omega | decide) only [go_sem, f0, f1, opn_cond, hc, if_true, cellsOf_lsa, lsaE_dec, bare_eq]
    exact hK _
  iterate 2 (apply aops_step (by decide) rfl; · (intro K hK; simp (disch := first | omega | decide) only [go_sem, f0, f1, cellsOf_lsa, lsaE_dec, bare_eq]; exact hK _))
  apply aops_merge' (by decide) (by exact want_of (d := 24) rfl (by simp (disch := first | omega | decide) only [go_sem, f0, f1, opn_cond, cellsOf_lsa, lsaE_dec, bare_eq]; rfl))
  · intro hc K hK
    have hc2 := hc
    simp only [beq_iff_eq, decide_eq_true_eq, decide_eq_false_iff_not, Bool.or_eq_true, Bool.and_eq_true, Bool.or_eq_false_iff, Bool.and_eq_false_iff] at hc2
    simp (disch := first | omega | decide) only [go_sem, f0, f1, opn_cond, hc, if_true, act_fieldAddr_t fo74_3, cellsOf_lsa, lsaE_dec, bare_eq]
    rw [mwp_fieldAddr_b (by simp (disch := first | omega | decide) only [go_sem, f0, f1, opn_cond, hc, if_true, cellsOf_lsa, lsaE_dec, bare_eq]; rfl)]
    exact hK _
  apply aops_merge' (by decide) (by exact want_of (d := 24) rfl (by simp (disch := first | omega | decide) only [go_sem, f0, f1, opn_cond, cellsOf_lsa, lsaE_dec, bare_eq]; rfl))
  · intro hc K hK
    have hc2 := hc
    simp only [beq_iff_eq, decide_eq_true_eq, decide_eq_false_iff_not, Bool.or_eq_true, Bool.and_eq_true, Bool.or_eq_false_iff, Bool.and_eq_false_iff] at hc2
    simp (disch := first | omega | decide) only [go_sem, f0, f1, opn_cond, hc, if_true, act_load_t ti3, cellsOf_lsa, lsaE_dec, bare_eq]
    rw [mwp_load_b1 (by simp (disch := first | omega | decide) only [go_sem, f0, f1, opn_cond, hc, if_true, cellsOf_lsa, lsaE_dec, bare_eq]; rfl) (by rfl)]
    exact hK _
  apply aops_merge' (by decide) (by exact want_of (d := 24) rfl (by simp (disch := first | omega | decide) only [go_sem, f0, f1, opn_cond, cellsOf_lsa, lsaE_dec, bare_eq]; rfl))
  · intro hc K hK
    have hc2 := hc
    simp only [beq_iff_eq, decide_eq_true_eq, decide_eq_false_iff_not, Bool.or_eq_true, Bool.and_eq_true, Bool.or_eq_false_iff, Bool.and_eq_false_iff] at hc2
    simp (disch := first | omega | decide) only [go_sem, f0, f1, opn_cond, hc, if_true, act_fieldAddr_t fo74_3, cellsOf_lsa, lsaE_dec, bare_eq]
    rw [mwp_fieldAddr_b (by simp (disch := first | omega | decide) only [go_sem, f0, f1, opn_cond, hc, if_true, cellsOf_lsa, lsaE_dec, bare_eq]; rfl)]
    exact hK _
  apply aops_merge' (by decide) (by exact want_of (d := 24) rfl (by simp (disch := first | omega | decide) only [go_sem, f0, f1, opn_cond, cellsOf_lsa, lsaE_dec, bare_eq]; rfl))
  · intro hc K hK
    have hc2 := hc
    simp only [beq_iff_eq, decide_eq_true_eq, decide_eq_false_iff_not, Bool.or_eq_true, Bool.and_eq_true, Bool.or_eq_false_iff, Bool.and_eq_false_iff] at hc2
    simp (disch := first | omega | decide) only [go_sem, f0, f1, opn_cond, hc, if_true, act_load_t ti3, cellsOf_lsa, lsaE_dec, bare_eq]
    rw [mwp_load_b1 (by simp (disch := first | omega | decide) only [go_sem, f0, f1, opn_cond, hc, if_true, cellsOf_lsa, lsaE_dec, bare_eq]; rfl) (by rfl)]
    exact hK _
  apply aops_merge' (by decide) (by exact want_of (d := 24) rfl (by simp (disch := first | omega | decide) only [go_sem, f0, f1, opn_cond, cellsOf_lsa, lsaE_dec, bare_eq]; rfl))
  · intro hc K hK
    have hc2 := hc
    simp only [beq_iff_eq, decide_eq_true_eq, decide_eq_false_iff_not, Bool.or_eq_true, Bool.and_eq_true, Bool.or_eq_false_iff, Bool.and_eq_false_iff] at hc2
    simp (disch := first | omega | decide) only [go_sem, f0, f1, opn_cond, hc, if_true, cellsOf_lsa, lsaE_dec, bare_eq]
    exact hK _
  iterate 2 (apply aops_step (by decide) rfl; · (intro K hK; simp (disch := first | omega | decide) only [go_sem, f0, f1, cellsOf_lsa, lsaE_dec, bare_eq]; exact hK _))
  refine aops_nil ?_
  refine AW.ret ?_
  refine ⟨.inr rfl, ?_⟩
  refine leaves_tmp1 4 rfl ?_ (by exact hG)
  simp (disch := first | omega | decide) only [go_sem, f0, f1, cellsOf_lsa, lsaE_dec, bare_eq]
  all_goals (simp only [chEq, Bool.and_assoc]; done)

end Go.Vai.C
