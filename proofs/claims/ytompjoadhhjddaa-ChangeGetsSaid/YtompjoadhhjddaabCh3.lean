import Derived.Test.YtompjoadhhjddaabCh2
import Derived.Test.YtompjoadhhjddaaLsaBk
import Derived.Test.YtompjoadhhjddaaVaiD
namespace Go.Vai.C
open Go.Proofs Go.Vai Go.Vai.G Go.Vai.L Go.Vai.O
set_option linter.unusedSimpArgs false
set_option linter.unusedVariables false

theorem allC_at {l : List Ch} {k : Nat} (hk : k < l.length) (h0 : (!chOK l[k]) = true) : (allCh l && many l) = false := by
  have h := bnot_t h0
  have : allCh l = false := by
    cases e : allCh l with
    | false => rfl
    | true => exact absurd (List.all_eq_true.1 e l[k] (List.getElem_mem hk)) (by rw [h]; decide)
  rw [this, Bool.false_and]
theorem allC_end {l : List Ch} (h : (l.take l.length).all chOK = true) : (decide ((l.length : Int) ≥ 1) && decide ((l.length : Int) ≤ 40)) = (allCh l && many l) := by
  rw [List.take_length] at h
  rw [allCh, h, Bool.true_and]
  exact many_wi l
def lightC (l : List Ch) : Bool := ((l.take 51).all fun c => decide ((c.l.ls.length : Int) ≤ 40)) && decide ((l.length : Int) ≤ 50)
set_option maxHeartbeats 4000000 in
set_option maxRecDepth 100000 in
theorem good_refAllC (nil : Bool) (l : List Ch) (hl : l.length ≤ 9223372036854775807) (pl : ∀ x ∈ l, x.l.ls.length ≤ 9223372036854775807) : Good Try.prog 52 [(.sl 6 nil (l.map chA), false)] [] [(.b (allCh l && many l), false)] [] := by
  refine good_of_body2 24 Try.func52 rfl rfl rfl (by simp) ?_
  intro s m ha hr hv hG
  have f0 : s 0 = .v (.sl 6 nil (l.map chA)) := ha 0 _ rfl
  clear ha
  refine AW.seq ?_
  refine AW.region (cfg := cfg) ?_
  iterate 1 (apply aops_step (by decide) rfl; · (intro K hK; simp (disch := first | omega | decide) only [go_sem, f0, cellsOf_ch]; exact hK _))
  refine aops_nil ?_
  refine AW.seq ?_
  refine AW.seq ?_
  refine AW.region (cfg := cfg) ?_
  iterate 1 (apply aops_step (by decide) rfl; · (intro K hK; simp (disch := first | omega | decide) only [go_sem, f0, cellsOf_ch]; exact hK _))
  refine aops_nil ?_
  refine AW.block ?_
  refine AW.forN (fun k σ => ∃ s m, σ = ⟨24, s, m⟩ ∧ s 0 = .v (.sl 6 nil (l.map chA)) ∧ s 3 = .v (i64 (k : Int)) ∧ ((l.take k).all chOK = true) ∧ m.G = []) (l.length) ?_ ?_ ?_
  · refine ⟨_, _, rfl, ?_, ?_, ?_, (by exact hG)⟩ <;> try simp (disch := first | omega | decide) only [go_sem, f0, cellsOf_ch]
    all_goals rfl
  · clear f0 hG
    rintro k σ hk ⟨s, m, rfl, f0, f3, mo0, hG⟩
    refine AW.seq ?_
    refine AW.seq ?_
    refine AW.region (cfg := cfg) ?_
    iterate 4 (apply aops_step (by decide) rfl; · (intro K hK; simp (disch := first | omega | decide) only [go_sem, f0, f3, List.map, List.length_map, aops_len u65, cellsOf_ch]; exact hK _))
    refine aops_nil ?_
    apply AW.cond
    · simp (disch := first | omega | decide) only [go_sem, f0, f3, cellsOf_ch]; rfl
    case hf => intro hb; (simp at hb; omega)
    case ht =>
    intro hb
    have hbt7 := hb
    refine AW.skip ?_
    refine AW.seq ?_
    refine AW.block ?_
    refine AW.seq ?_
    have hkl : k < l.length := by assumption
    have pkl := pl l[k] (List.getElem_mem hkl)
    refine AW.region (cfg := cfg) ?_
    iterate 2 (apply aops_step (by decide) rfl; · (intro K hK; simp (disch := first | omega | decide) only [go_sem, f0, f3, cellsOf_ch]; exact hK _))
    apply aops_step (by decide) rfl
    · intro K hK
      simp (disch := first | omega | decide) only [go_sem, f0, f3, act_indexAddr_s u65 ti74, List.map, cellsOf_ch]
      skip
      exact hK _
    apply aops_step (by decide) rfl
    · intro K hK
      simp (disch := first | omega | decide) only [go_sem, f0, f3, act_load_t ti74, List.map, cellsOf_ch]
      rw [mwp_load_is (by simp)]
      exact hK _
    apply aops_step (by decide) rfl
    · intro K hK
      simp (disch := first | omega | decide) only [go_sem, f0, f3, act_call, List.map, cellsOf_ch]
      apply mwp_call_s rfl rfl rfl
      · intro Q hQ
        (simp (disch := first | omega | decide) only [go_sem, f0, f3, peekL, reifyL_nil, reifyL_cons, reify_v, cellsOf_ch]; (exact hQ))
      · exact good_refMayC l[k] pkl
      · simp [-List.map_take, -List.map_drop, -List.map_append, -List.map_replicate, -List.reduceReplicate, noPtrL, noPtr, noPtrL_bsl, noPtrL_map, sub]
      · rfl
      · exact hK _
    iterate 1 (apply aops_step (by decide) rfl; · (intro K hK; simp (disch := first | omega | decide) only [go_sem, f0, f3, cellsOf_ch]; exact hK _))
    refine aops_nil ?_
    apply AW.cond
    · simp (disch := first | omega | decide) only [go_sem, f0, f3, cellsOf_ch]; rfl
    case ht =>
      intro hb
      try simp only [Bool.or_eq_true, Bool.and_eq_true, Bool.or_eq_false_iff, Bool.and_eq_false_iff, decide_eq_true_eq, decide_eq_false_iff_not] at hb
      have hbt15 := hb
      refine AW.seq ?_
      refine AW.region (cfg := cfg) ?_
      iterate 1 (apply aops_step (by decide) rfl; · (intro K hK; simp (disch := first | omega | decide) only [go_sem, f0, f3, cellsOf_ch]; exact hK _))
      refine aops_nil ?_
      refine AW.ret ?_
      refine ⟨.inr rfl, ?_⟩
      refine leaves_tmp1 2 rfl ?_ (by exact hG)
      simp (disch := first | omega | decide) only [go_sem, f0, f3, cellsOf_ch]
      all_goals (rw [allC_at hk hb]; done)
    case hf =>
      intro hb
      try simp only [Bool.or_eq_true, Bool.and_eq_true, Bool.or_eq_false_iff, Bool.and_eq_false_iff, decide_eq_true_eq, decide_eq_false_iff_not] at hb
      have hbt15 := hb
      refine AW.skip ?_
      refine AW.region (cfg := cfg) ?_
      iterate 3 (apply aops_step (by decide) rfl; · (intro K hK; simp (disch := first | omega | decide) only [go_sem, f0, f3, cellsOf_ch]; exact hK _))
      refine aops_nil ?_
      refine ⟨_, _, rfl, ?_, ?_, ?_, (by exact hG)⟩ <;> try simp (disch := first | omega | decide) only [go_sem, f0, f3, cellsOf_ch]
      all_goals first | rfl | exact all_step hk mo0 hb
  · clear f0 hG
    rintro σ ⟨s, m, rfl, f0, f3, mo0, hG⟩
    refine AW.seq ?_
    refine AW.seq ?_
    refine AW.region (cfg := cfg) ?_
    iterate 4 (apply aops_step (by decide) rfl; · (intro K hK; simp (disch := first | omega | decide) only [go_sem, f0, f3, List.map, List.length_map, aops_len u65, cellsOf_ch]; exact hK _))
    refine aops_nil ?_
    apply AW.cond
    · simp (disch := first | omega | decide) only [go_sem, f0, f3, cellsOf_ch]; rfl
    case ht => intro hb; (simp at hb; done)
    case hf =>
    intro hb
    have hbt7 := hb
    refine AW.exit ?_
    refine AW.seq ?_
    refine AW.region (cfg := cfg) ?_
    iterate 4 (apply aops_step (by decide) rfl; · (intro K hK; simp (disch := first | omega | decide) only [go_sem, f0, f3, List.map, List.length_map, aops_len u65, cellsOf_ch]; exact hK _))
    apply aops_merge' (by decide) (by exact want_of (d := 19) rfl (by simp (disch := first | omega | decide) only [go_sem, f0, f3, opn_cond, cellsOf_ch]; rfl))
    · intro hc K hK
      have hc2 := hc
      simp only [beq_iff_eq, decide_eq_true_eq, decide_eq_false_iff_not, Bool.or_eq_true, Bool.and_eq_true, Bool.or_eq_false_iff, Bool.and_eq_false_iff] at hc2
      simp (disch := first | omega | decide) only [go_sem, f0, f3, opn_cond, hc, if_true, cellsOf_ch]
      exact hK _
    apply aops_merge' (by decide) (by exact want_of (d := 19) rfl (by simp (disch := first | omega | decide) only [go_sem, f0, f3, opn_cond, cellsOf_ch]; rfl))
    · intro hc K hK
      have hc2 := hc
      simp only [beq_iff_eq, decide_eq_true_eq, decide_eq_false_iff_not, Bool.or_eq_true, Bool.and_eq_true, Bool.or_eq_false_iff, Bool.and_eq_false_iff] at hc2
      simp (disch := first | omega | decide) only [go_sem, f0, f3, opn_cond, hc, if_true, List.map, List.length_map, aops_len u65, cellsOf_ch]
      exact hK _
    apply aops_merge' (by decide) (by exact want_of (d := 19) rfl (by simp (disch := first | omega | decide) only [go_sem, f0, f3, opn_cond, cellsOf_ch]; rfl))
    · intro hc K hK
      have hc2 := hc
      simp only [beq_iff_eq, decide_eq_true_eq, decide_eq_false_iff_not, Bool.or_eq_true, Bool.and_eq_true, Bool.or_eq_false_iff, Bool.and_eq_false_iff] at hc2
      simp (disch := first | omega | decide) only [go_sem, f0, f3, opn_cond, hc, if_true, cellsOf_ch]
      exact hK _
    iterate 2 (apply aops_step (by decide) rfl; · (intro K hK; simp (disch := first | omega | decide) only [go_sem, f0, f3, cellsOf_ch]; exact hK _))
    refine aops_nil ?_
    refine AW.ret ?_
    refine ⟨.inr rfl, ?_⟩
    refine leaves_tmp1 2 rfl ?_ (by exact hG)
    simp (disch := first | omega | decide) only [go_sem, f0, f3, cellsOf_ch]
    all_goals (rw [allC_end mo0]; done)

set_option maxHeartbeats 4000000 in
set_option maxRecDepth 100000 in
theorem good_ListsC (na nb : Bool) (a b : List Ch) (ha : a.length ≤ 9223372036854775807) (hb : b.length ≤ 9223372036854775807) (pa : ∀ x ∈ a, x.l.ls.length ≤ 9223372036854775807) (pb : ∀ x ∈ b, x.l.ls.length ≤ 9223372036854775807) : Good Try.prog 45 [(.sl 6 na (a.map chA), false), (.sl 6 nb (b.map chA), false)] [] [(.b (eqAll chEq a b), false)] [] := by
  refine good_of_body2 27 Try.func45 rfl rfl rfl (by simp) ?_
  intro s m ha hr hv hG
  have f0 : s 0 = .v (.sl 6 na (a.map chA)) := ha 0 _ rfl
  have f1 : s 1 = .v (.sl 6 nb (b.map chA)) := ha 1 _ rfl
  clear ha
  refine AW.seq ?_
  refine AW.region (cfg := cfg) ?_
  iterate 1 (apply aops_step (by decide) rfl; · (intro K hK; simp (disch := first | omega | decide) only [go_sem, f0, f1, cellsOf_ch]; exact hK _))
  refine aops_nil ?_
  refine AW.seq ?_
  refine AW.seq ?_
  refine AW.region (cfg := cfg) ?_
  iterate 5 (apply aops_step (by decide) rfl; · (intro K hK; simp (disch := first | omega | decide) only [go_sem, f0, f1, List.map, List.length_map, aops_len u65, cellsOf_ch]; exact hK _))
  refine aops_nil ?_
  apply AW.cond
  · simp (disch := first | omega | decide) only [go_sem, f0, f1, cellsOf_ch]; rfl
  case ht =>
    intro hb
    try simp only [Bool.or_eq_true, Bool.and_eq_true, Bool.or_eq_false_iff, Bool.and_eq_false_iff, decide_eq_true_eq, decide_eq_false_iff_not] at hb
    have hbt10 := hb
    refine AW.seq ?_
    refine AW.region (cfg := cfg) ?_
    iterate 1 (apply aops_step (by decide) rfl; · (intro K hK; simp (disch := first | omega | decide) only [go_sem, f0, f1, cellsOf_ch]; exact hK _))
    refine aops_nil ?_
    refine AW.ret ?_
    refine ⟨.inr rfl, ?_⟩
    refine leaves_tmp1 4 rfl ?_ (by exact hG)
    simp (disch := first | omega | decide) only [go_sem, f0, f1, cellsOf_ch]
    all_goals (rw [eqAll_len (by omega)]; done)
  case hf =>
    intro hb
    try simp only [Bool.or_eq_true, Bool.and_eq_true, Bool.or_eq_false_iff, Bool.and_eq_false_iff, decide_eq_true_eq, decide_eq_false_iff_not] at hb
    have hbt10 := hb
    refine AW.skip ?_
    refine AW.seq ?_
    refine AW.seq ?_
    refine AW.region (cfg := cfg) ?_
    iterate 1 (apply aops_step (by decide) rfl; · (intro K hK; simp (disch := first | omega | decide) only [go_sem, f0, f1, cellsOf_ch]; exact hK _))
    refine aops_nil ?_
    refine AW.block ?_
    refine AW.forN (fun k σ => ∃ s m, σ = ⟨27, s, m⟩ ∧ s 0 = .v (.sl 6 na (a.map chA)) ∧ s 1 = .v (.sl 6 nb (b.map chA)) ∧ s 5 = .v (i64 (k : Int)) ∧ (a.length = b.length) ∧ (((a.zip b).take k).all (fun p => chEq p.1 p.2) = true) ∧ m.G = []) (a.length) ?_ ?_ ?_
    · refine ⟨_, _, rfl, ?_, ?_, ?_, ?_, ?_, (by exact hG)⟩ <;> try simp (disch := first | omega | decide) only [go_sem, f0, f1, cellsOf_ch]
      all_goals first | rfl | omega
    · clear f0 f1 hG
      rintro k σ hk ⟨s, m, rfl, f0, f1, f5, mo0, mo1, hG⟩
      refine AW.seq ?_
      refine AW.seq ?_
      refine AW.region (cfg := cfg) ?_
      iterate 4 (apply aops_step (by decide) rfl; · (intro K hK; simp (disch := first | omega | decide) only [go_sem, f0, f1, f5, List.map, List.length_map, aops_len u65, cellsOf_ch]; exact hK _))
      refine aops_nil ?_
      apply AW.cond
      · simp (disch := first | omega | decide) only [go_sem, f0, f1, f5, cellsOf_ch]; rfl
      case hf => intro hb; (simp at hb; omega)
      case ht =>
      intro hb
      have hbt14 := hb
      refine AW.skip ?_
      refine AW.seq ?_
      refine AW.block ?_
      refine AW.seq ?_
      have hka : k < a.length := by assumption
      have hkb : k < b.length := by omega
      have pka := pa a[k] (List.getElem_mem hka)
      have pkb := pb b[k] (List.getElem_mem hkb)
      refine AW.draw (cfg := cfg) (by kernel_rfl) (by kernel_rfl) (by kernel_rfl) ?_
      iterate 2 (apply adraw_step rfl; · (intro K hK; simp (disch := first | omega | decide) only [go_sem, f0, f1, f5, cellsOf_ch]; exact hK))
      apply adraw_step rfl
      · intro K hK
        simp (disch := first | omega | decide) only [go_sem, f0, f1, f5, act_indexAddr_s u65 ti74, List.map, cellsOf_ch]
        skip
        exact hK
      apply adraw_step rfl
      · intro K hK
        simp (disch := first | omega | decide) only [go_sem, f0, f1, f5, act_load_t ti74, List.map, cellsOf_ch]
        rw [mwp_load_is (by simp)]
        exact hK
      iterate 2 (apply adraw_step rfl; · (intro K hK; simp (disch := first | omega | decide) only [go_sem, f0, f1, f5, cellsOf_ch]; exact hK))
      apply adraw_step rfl
      · intro K hK
        simp (disch := first | omega | decide) only [go_sem, f0, f1, f5, act_indexAddr_s u65 ti74, List.map, cellsOf_ch]
        skip
        exact hK
      apply adraw_step rfl
      · intro K hK
        simp (disch := first | omega | decide) only [go_sem, f0, f1, f5, act_load_t ti74, List.map, cellsOf_ch]
        rw [mwp_load_is (by simp)]
        exact hK
      apply adraw_step rfl
      · intro K hK
        simp (disch := first | omega | decide) only [go_sem, f0, f1, f5, act_call, List.map, cellsOf_ch]
        apply mwp_call_s rfl rfl rfl
        · intro Q hQ
          (simp (disch := first | omega | decide) only [go_sem, f0, f1, f5, peekL, reifyL_nil, reifyL_cons, reify_v, cellsOf_ch]; (exact hQ))
        · exact good_refSameC a[k] pka b[k] pkb
        · simp [-List.map_take, -List.map_drop, -List.map_append, -List.map_replicate, -List.reduceReplicate, noPtrL, noPtr, noPtrL_bsl, noPtrL_map, sub]
        · rfl
        · exact hK
      iterate 1 (apply adraw_step rfl; · (intro K hK; simp (disch := first | omega | decide) only [go_sem, f0, f1, f5, cellsOf_ch]; exact hK))
      refine adraw_nil (by kernel_rfl) ?_
      apply AW.cond
      · simp (disch := first | omega | decide) only [go_sem, f0, f1, f5, cellsOf_ch]; rfl
      case ht =>
        intro hb
        try simp only [Bool.or_eq_true, Bool.and_eq_true, Bool.or_eq_false_iff, Bool.and_eq_false_iff, decide_eq_true_eq, decide_eq_false_iff_not] at hb
        have hbt26 := hb
        refine AW.seq ?_
        refine AW.region (cfg := cfg) ?_
        iterate 1 (apply aops_step (by decide) rfl; · (intro K hK; simp (disch := first | omega | decide) only [go_sem, f0, f1, f5, cellsOf_ch]; exact hK _))
        refine aops_nil ?_
        refine AW.ret ?_
        refine ⟨.inr rfl, ?_⟩
        refine leaves_tmp1 4 rfl ?_ (by exact hG)
        simp (disch := first | omega | decide) only [go_sem, f0, f1, f5, cellsOf_ch]
        all_goals (rw [eqAll_at mo0 hk hb]; done)
      case hf =>
        intro hb
        try simp only [Bool.or_eq_true, Bool.and_eq_true, Bool.or_eq_false_iff, Bool.and_eq_false_iff, decide_eq_true_eq, decide_eq_false_iff_not] at hb
        have hbt26 := hb
        refine AW.skip ?_
        refine AW.region (cfg := cfg) ?_
        iterate 3 (apply aops_step (by decide) rfl; · (intro K hK; simp (disch := first | omega | decide) only [go_sem, f0, f1, f5, cellsOf_ch]; exact hK _))
        refine aops_nil ?_
        refine ⟨_, _, rfl, ?_, ?_, ?_, ?_, ?_, (by exact hG)⟩ <;> try simp (disch := first | omega | decide) only [go_sem, f0, f1, f5, cellsOf_ch]
        all_goals first | rfl | assumption | exact eqAll_step mo0 hk mo1 hb
    · clear f0 f1 hG
      rintro σ ⟨s, m, rfl, f0, f1, f5, mo0, mo1, hG⟩
      refine AW.seq ?_
      refine AW.seq ?_
      refine AW.region (cfg := cfg) ?_
      iterate 4 (apply aops_step (by decide) rfl; · (intro K hK; simp (disch := first | omega | decide) only [go_sem, f0, f1, f5, List.map, List.length_map, aops_len u65, cellsOf_ch]; exact hK _))
      refine aops_nil ?_
      apply AW.cond
      · simp (disch := first | omega | decide) only [go_sem, f0, f1, f5, cellsOf_ch]; rfl
      case ht => intro hb; (simp at hb; done)
      case hf =>
      intro hb
      have hbt14 := hb
      refine AW.exit ?_
      refine AW.seq ?_
      refine AW.region (cfg := cfg) ?_
      iterate 1 (apply aops_step (by decide) rfl; · (intro K hK; simp (disch := first | omega | decide) only [go_sem, f0, f1, f5, cellsOf_ch]; exact hK _))
      refine aops_nil ?_
      refine AW.ret ?_
      refine ⟨.inr rfl, ?_⟩
      refine leaves_tmp1 4 rfl ?_ (by exact hG)
      simp (disch := first | omega | decide) only [go_sem, f0, f1, f5, cellsOf_ch]
      all_goals (rw [eqAll_end mo0 mo1]; done)

set_option maxHeartbeats 4000000 in
set_option maxRecDepth 100000 in
theorem good_OneC (c : Ch) (hok : chOK c = true) (hc : c.l.ls.length ≤ 9223372036854775807) : Good Try.prog 80 [(chA c, false)] [] [(.sl 1 false (bsl (chB c)), false)] [] := by
  refine good_of_body2 39 Try.func80 rfl rfl rfl (by simp) ?_
  intro s m ha hr hv hG
  have f0 : s 0 = .v (.agg [i64 c.kind, i64 c.l.o, i64 c.l.s, .sl 2 c.l.nil (c.l.ls.map linkA), i64 c.n, i64 c.of]) := ha 0 _ rfl
  clear ha
  obtain ⟨cn1, cn2, cn3⟩ := ch_num hok
  refine AW.seq ?_
  refine AW.region (cfg := cfg3) ?_
  apply aops_step (by decide) rfl
  · intro K hK
    simp (disch := first | omega | decide) only [go_sem, f0, act_box_t ti74, List.map, cellsOf_ch, cellsOf_lsa, byte_wrap, List.append_assoc, ← numR_one]
    rw [settleL_vish _ _ (by rfl)]
    simp (disch := first | omega | decide) only [go_sem, f0, cellsL, List.map, List.length_cons, List.length_nil, Nat.reduceAdd, if_true, cellsOf_ch, cellsOf_lsa, byte_wrap, List.append_assoc, ← numR_one]
    exact hK _
  iterate 1 (apply aops_step (by decide) rfl; · (intro K hK; simp (disch := first | omega | decide) only [go_sem, f0, sz25, cellsOf_ch, cellsOf_lsa, byte_wrap, List.append_assoc, ← numR_one]; exact hK _))
  refine aops_nil ?_
  refine AW.seq ?_
  refine AW.region (cfg := cfg3) ?_
  apply aops_step (by decide) rfl
  · intro K hK
    simp (disch := first | omega | decide) only [go_sem, f0, act_fieldAddr_t fo74_0, List.map, cellsOf_ch, cellsOf_lsa, byte_wrap, List.append_assoc, ← numR_one]
    rw [mwp_fieldAddr_b (by simp (disch := first | omega | decide) only [go_sem, f0, cellsOf_ch, cellsOf_lsa, byte_wrap, List.append_assoc, ← numR_one]; rfl)]
    exact hK _
  apply aops_step (by decide) rfl
  · intro K hK
    simp (disch := first | omega | decide) only [go_sem, f0, act_load_t ti3, List.map, cellsOf_ch, cellsOf_lsa, byte_wrap, List.append_assoc, ← numR_one]
    rw [mwp_load_b1 (by simp (disch := first | omega | decide) only [go_sem, f0, cellsOf_ch, cellsOf_lsa, byte_wrap, List.append_assoc, ← numR_one]; rfl) (by rfl)]
    exact hK _
  iterate 1 (apply aops_step (by decide) rfl; · (intro K hK; simp (disch := first | omega | decide) only [go_sem, f0, act_convI u3 u5, cellsOf_ch, cellsOf_lsa, byte_wrap, List.append_assoc, ← numR_one]; exact hK _))
  apply aops_step (by decide) rfl
  · intro K hK
    rw [act_bs el25 ti5]
    (simp [-List.map_take, -List.map_drop, -BitVec.toNat_ofInt, -BitVec.ofInt_natCast, -BitVec.toNat_setWidth, -BitVec.toNat_ushiftRight, -BitVec.toNat_umod, -BitVec.toNat_udiv, go_sem, elems_v, cellishAV, Value.oneCell', isAggAV, partsOf, TI.z, TI.mk1, f0]; exact hK _)
  apply aops_step (by decide) rfl
  · intro K hK
    simp (disch := first | omega | decide) only [go_sem, f0, cellsOf_ch, cellsOf_lsa, byte_wrap, List.append_assoc, ← numR_one]
    rw [asg_tmp (by simp (disch := first | omega | decide) only [go_sem, f0, cellsOf_ch, cellsOf_lsa, byte_wrap, List.append_assoc, ← numR_one]; rfl)]
    exact hK _
  refine aops_nil ?_
  refine AW.seq ?_
  refine AW.seq ?_
  refine AW.region (cfg := cfg3) ?_
  apply aops_step (by decide) rfl
  · intro K hK
    simp (disch := first | omega | decide) only [go_sem, f0, act_fieldAddr_t fo74_0, List.map, cellsOf_ch, cellsOf_lsa, byte_wrap, List.append_assoc, ← numR_one]
    rw [mwp_fieldAddr_b (by simp (disch := first | omega | decide) only [go_sem, f0, cellsOf_ch, cellsOf_lsa, byte_wrap, List.append_assoc, ← numR_one]; rfl)]
    exact hK _
  apply aops_step (by decide) rfl
  · intro K hK
    simp (disch := first | omega | decide) only [go_sem, f0, act_load_t ti3, List.map, cellsOf_ch, cellsOf_lsa, byte_wrap, List.append_assoc, ← numR_one]
    rw [mwp_load_b1 (by simp (disch := first | omega | decide) only [go_sem, f0, cellsOf_ch, cellsOf_lsa, byte_wrap, List.append_assoc, ← numR_one]; rfl) (by rfl)]
    exact hK _
  refine aops_nil ?_
  refine AW.block ?_
  refine AW.seq ?_
  refine AW.region (cfg := cfg3) ?_
  iterate 2 (apply aops_step (by decide) rfl; · (intro K hK; simp (disch := first | omega | decide) only [go_sem, f0, cellsOf_ch, cellsOf_lsa, byte_wrap, List.append_assoc, ← numR_one]; exact hK _))
  refine aops_nil ?_
  apply AW.cond
  · simp (disch := first | omega | decide) only [go_sem, f0, cellsOf_ch, cellsOf_lsa, byte_wrap, List.append_assoc, ← numR_one]; rfl
  case ht =>
    intro hb
    try simp only [Bool.or_eq_true, Bool.and_eq_true, Bool.or_eq_false_iff, Bool.and_eq_false_iff, decide_eq_true_eq, decide_eq_false_iff_not] at hb
    have hbt10 := hb
    refine AW.seq ?_
    obtain ⟨cb1, cb2, cb3⟩ := ch_b1 hok hbt10
    obtain ⟨lb1, lb2, lb3, lb4⟩ := lsa_bd cb1
    refine AW.region (cfg := cfg3) ?_
    iterate 1 (apply aops_step (by decide) rfl; · (intro K hK; simp (disch := first | omega | decide) only [go_sem, f0, cellsOf_ch, cellsOf_lsa, byte_wrap, List.append_assoc, ← numR_one]; exact hK _))
    apply aops_step (by decide) rfl
    · intro K hK
      simp (disch := first | omega | decide) only [go_sem, f0, act_fieldAddr_t fo74_1, List.map, cellsOf_ch, cellsOf_lsa, byte_wrap, List.append_assoc, ← numR_one]
      rw [mwp_fieldAddr_b (by simp (disch := first | omega | decide) only [go_sem, f0, cellsOf_ch, cellsOf_lsa, byte_wrap, List.append_assoc, ← numR_one]; rfl)]
      exact hK _
    apply aops_step (by decide) rfl
    · intro K hK
      simp (disch := first | omega | decide) only [go_sem, f0, act_load_t ti24, List.map, cellsOf_ch, cellsOf_lsa, byte_wrap, List.append_assoc, ← numR_one]
      rw [mwp_load_bs (by simp (disch := first | omega | decide) only [go_sem, f0, cellsOf_ch, cellsOf_lsa, byte_wrap, List.append_assoc, ← numR_one]; rfl) (by simp [setAt])]
      exact hK _
    apply aops_step (by decide) rfl
    · intro K hK
      simp (disch := first | omega | decide) only [go_sem, f0, act_call, List.map, cellsOf_ch, cellsOf_lsa, byte_wrap, List.append_assoc, ← numR_one]
      apply mwp_call_r rfl rfl rfl
      · intro Q hQ
        (simp (disch := first | omega | decide) only [go_sem, f0, peekL, reifyL_nil, reifyL_cons, reify_v, cellsOf_ch, cellsOf_lsa, byte_wrap, List.append_assoc, ← numR_one]; (exact hQ))
      · exact L.good_refPut c.l.o c.l.s c.l.nil c.l.ls cb1
      · simp [-List.map_take, -List.map_drop, -List.map_append, -List.map_replicate, -List.reduceReplicate, noPtrL, noPtr, noPtrL_bsl, noPtrL_map, sub]
      · rw [resOf_own1 (by (simp (disch := decide) only [mset_ne, hr]; done))]
        exact hK _
    apply aops_step (by decide) rfl
    · intro K hK
      simp (disch := first | omega | decide) only [go_sem, f0, List.map, cellsOf_ch, cellsOf_lsa, byte_wrap, List.append_assoc, ← numR_one]
      apply mwp_append2 el25 ti5 u25
      case hpk => intro Q hQ; (rw [peek_own (by simp (disch := first | omega | decide) only [go_sem, f0, cellsOf_ch, cellsOf_lsa, byte_wrap, List.append_assoc, ← numR_one]; rfl)]; (try rw [sub_full (by rfl)]); exact hQ)
      case hs' => rfl
      case ho => simp (disch := first | omega | decide) only [go_sem, f0, cellsOf_ch, cellsOf_lsa, byte_wrap, List.append_assoc, ← numR_one]; rfl
      case hsz => rfl
      case hhi => (simp [numR_length, lsaB_len]; done)
      case hb => (simp [sub, roomB, numR_length, lsaB_len]; omega)
      case hy => (simp [sub, cellsOf]; done)
      case k => (try simp only [List.nil_append, ← List.map_append, Bool.false_and]); exact hK _
    apply aops_step (by decide) rfl
    · intro K hK
      simp (disch := first | omega | decide) only [go_sem, f0, cellsOf_ch, cellsOf_lsa, byte_wrap, List.append_assoc, ← numR_one]
      rw [asg_tmp (by simp (disch := first | omega | decide) only [go_sem, f0, cellsOf_ch, cellsOf_lsa, byte_wrap, List.append_assoc, ← numR_one]; rfl)]
      exact hK _
    refine aops_nil ?_
    refine AW.ret ?_
    refine ⟨.inr rfl, ?_⟩
    refine leaves_frz1 2 rfl (by simp (disch := first | omega | decide) only [go_sem, f0, cellsOf_ch, cellsOf_lsa, byte_wrap, List.append_assoc, ← numR_one] <;> rfl) (by simp (disch := first | omega | decide) only [go_sem, f0, cellsOf_ch, cellsOf_lsa, byte_wrap, List.append_assoc, ← numR_one] <;> rfl) (by rw [sub_full (by (simp [bsl, numR_length, lsaB_len]; omega))]; (rw [cb3, numR_one]; rfl)) (by exact hG)
  case hf =>
    intro hb
    try simp only [Bool.or_eq_true, Bool.and_eq_true, Bool.or_eq_false_iff, Bool.and_eq_false_iff, decide_eq_true_eq, decide_eq_false_iff_not] at hb
    have hbt10 := hb
    refine AW.seq ?_
    refine AW.region (cfg := cfg3) ?_
    iterate 2 (apply aops_step (by decide) rfl; · (intro K hK; simp (disch := first | omega | decide) only [go_sem, f0, cellsOf_ch, cellsOf_lsa, byte_wrap, List.append_assoc, ← numR_one]; exact hK _))
    refine aops_nil ?_
    apply AW.cond
    · simp (disch := first | omega | decide) only [go_sem, f0, cellsOf_ch, cellsOf_lsa, byte_wrap, List.append_assoc, ← numR_one]; rfl
    case ht =>
      intro hb
      try simp only [Bool.or_eq_true, Bool.and_eq_true, Bool.or_eq_false_iff, Bool.and_eq_false_iff, decide_eq_true_eq, decide_eq_false_iff_not] at hb
      have hbt17 := hb
      refine AW.seq ?_
      refine AW.region (cfg := cfg3) ?_
      iterate 1 (apply aops_step (by decide) rfl; · (intro K hK; simp (disch := first | omega | decide) only [go_sem, f0, cellsOf_ch, cellsOf_lsa, byte_wrap, List.append_assoc, ← numR_one]; exact hK _))
      apply aops_step (by decide) rfl
      · intro K hK
        simp (disch := first | omega | decide) only [go_sem, f0, act_fieldAddr_t fo74_2, List.map, cellsOf_ch, cellsOf_lsa, byte_wrap, List.append_assoc, ← numR_one]
        rw [mwp_fieldAddr_b (by simp (disch := first | omega | decide) only [go_sem, f0, cellsOf_ch, cellsOf_lsa, byte_wrap, List.append_assoc, ← numR_one]; rfl)]
        exact hK _
      apply aops_step (by decide) rfl
      · intro K hK
        simp (disch := first | omega | decide) only [go_sem, f0, act_load_t ti3, List.map, cellsOf_ch, cellsOf_lsa, byte_wrap, List.append_assoc, ← numR_one]
        rw [mwp_load_b1 (by simp (disch := first | omega | decide) only [go_sem, f0, cellsOf_ch, cellsOf_lsa, byte_wrap, List.append_assoc, ← numR_one]; rfl) (by rfl)]
        exact hK _
      iterate 1 (apply aops_step (by decide) rfl; · (intro K hK; simp (disch := first | omega | decide) only [go_sem, f0, act_convI u3 u97, cellsOf_ch, cellsOf_lsa, byte_wrap, List.append_assoc, ← numR_one]; exact hK _))
      apply aops_step (by decide) rfl
      · intro K hK
        simp (disch := first | omega | decide) only [go_sem, f0, act_call, List.map, cellsOf_ch, cellsOf_lsa, byte_wrap, List.append_assoc, ← numR_one]
        apply mwp_call_r rfl rfl rfl
        · intro Q hQ
          (simp (disch := first | omega | decide) only [go_sem, f0, peekL, reifyL_nil, reifyL_cons, reify_v, cellsOf_ch, cellsOf_lsa, byte_wrap, List.append_assoc, ← numR_one]; (exact hQ))
        · exact O.good_refNum 8 _ (by omega) (by omega)
        · simp [-List.map_take, -List.map_drop, -List.map_append, -List.map_replicate, -List.reduceReplicate, noPtrL, noPtr, noPtrL_bsl, noPtrL_map, sub]
        · rw [resOf_own1 (by (simp (disch := decide) only [mset_ne, hr]; done))]
          exact hK _
      apply aops_step (by decide) rfl
      · intro K hK
        simp (disch := first | omega | decide) only [go_sem, f0, List.map, cellsOf_ch, cellsOf_lsa, byte_wrap, List.append_assoc, ← numR_one]
        apply mwp_append2 el25 ti5 u25
        case hpk => intro Q hQ; (rw [peek_own (by simp (disch := first | omega | decide) only [go_sem, f0, cellsOf_ch, cellsOf_lsa, byte_wrap, List.append_assoc, ← numR_one]; rfl)]; (try rw [sub_full (by rfl)]); exact hQ)
        case hs' => rfl
        case ho => simp (disch := first | omega | decide) only [go_sem, f0, cellsOf_ch, cellsOf_lsa, byte_wrap, List.append_assoc, ← numR_one]; rfl
        case hsz => rfl
        case hhi => (simp [numR_length, lsaB_len]; done)
        case hb => (simp [sub, roomB, numR_length, lsaB_len]; done)
        case hy => exact all_cells rfl
        case k => (try simp only [List.nil_append, ← List.map_append, Bool.false_and]); exact hK _
      apply aops_step (by decide) rfl
      · intro K hK
        simp (disch := first | omega | decide) only [go_sem, f0, cellsOf_ch, cellsOf_lsa, byte_wrap, List.append_assoc, ← numR_one]
        rw [asg_tmp (by simp (disch := first | omega | decide) only [go_sem, f0, cellsOf_ch, cellsOf_lsa, byte_wrap, List.append_assoc, ← numR_one]; rfl)]
        exact hK _
      refine aops_nil ?_
      refine AW.ret ?_
      refine ⟨.inr rfl, ?_⟩
      refine leaves_frz1 2 rfl (by simp (disch := first | omega | decide) only [go_sem, f0, cellsOf_ch, cellsOf_lsa, byte_wrap, List.append_assoc, ← numR_one] <;> rfl) (by simp (disch := first | omega | decide) only [go_sem, f0, cellsOf_ch, cellsOf_lsa, byte_wrap, List.append_assoc, ← numR_one] <;> rfl) (by rw [sub_full (by (simp [numR_length]; done))]; (rw [ch_b2 hbt17, numR_one]; rfl)) (by exact hG)
    case hf =>
      intro hb
      try simp only [Bool.or_eq_true, Bool.and_eq_true, Bool.or_eq_false_iff, Bool.and_eq_false_iff, decide_eq_true_eq, decide_eq_false_iff_not] at hb
      have hbt17 := hb
      refine AW.seq ?_
      refine AW.region (cfg := cfg3) ?_
      iterate 2 (apply aops_step (by decide) rfl; · (intro K hK; simp (disch := first | omega | decide) only [go_sem, f0, cellsOf_ch, cellsOf_lsa, byte_wrap, List.append_assoc, ← numR_one]; exact hK _))
      refine aops_nil ?_
      apply AW.cond
      · simp (disch := first | omega | decide) only [go_sem, f0, cellsOf_ch, cellsOf_lsa, byte_wrap, List.append_assoc, ← numR_one]; rfl
      case ht =>
        intro hb
        try simp only [Bool.or_eq_true, Bool.and_eq_true, Bool.or_eq_false_iff, Bool.and_eq_false_iff, decide_eq_true_eq, decide_eq_false_iff_not] at hb
        have hbt25 := hb
        refine AW.region (cfg := cfg3) ?_
        iterate 1 (apply aops_step (by decide) rfl; · (intro K hK; simp (disch := first | omega | decide) only [go_sem, f0, cellsOf_ch, cellsOf_lsa, byte_wrap, List.append_assoc, ← numR_one]; exact hK _))
        apply aops_step (by decide) rfl
        · intro K hK
          simp (disch := first | omega | decide) only [go_sem, f0, act_fieldAddr_t fo74_3, List.map, cellsOf_ch, cellsOf_lsa, byte_wrap, List.append_assoc, ← numR_one]
          rw [mwp_fieldAddr_b (by simp (disch := first | omega | decide) only [go_sem, f0, cellsOf_ch, cellsOf_lsa, byte_wrap, List.append_assoc, ← numR_one]; rfl)]
          exact hK _
        apply aops_step (by decide) rfl
        · intro K hK
          simp (disch := first | omega | decide) only [go_sem, f0, act_load_t ti3, List.map, cellsOf_ch, cellsOf_lsa, byte_wrap, List.append_assoc, ← numR_one]
          rw [mwp_load_b1 (by simp (disch := first | omega | decide) only [go_sem, f0, cellsOf_ch, cellsOf_lsa, byte_wrap, List.append_assoc, ← numR_one]; rfl) (by rfl)]
          exact hK _
        iterate 1 (apply aops_step (by decide) rfl; · (intro K hK; simp (disch := first | omega | decide) only [go_sem, f0, act_convI u3 u5, cellsOf_ch, cellsOf_lsa, byte_wrap, List.append_assoc, ← numR_one]; exact hK _))
        apply aops_step (by decide) rfl
        · intro K hK
          rw [act_bs el25 ti5]
          (simp [-List.map_take, -List.map_drop, -BitVec.toNat_ofInt, -BitVec.ofInt_natCast, -BitVec.toNat_setWidth, -BitVec.toNat_ushiftRight, -BitVec.toNat_umod, -BitVec.toNat_udiv, go_sem, elems_v, cellishAV, Value.oneCell', isAggAV, partsOf, TI.z, TI.mk1, f0]; exact hK _)
        apply aops_step (by decide) rfl
        · intro K hK
          simp (disch := first | omega | decide) only [go_sem, f0, List.map, cellsOf_ch, cellsOf_lsa, byte_wrap, List.append_assoc, ← numR_one]
          apply mwp_append2 el25 ti5 u25
          case hpk => intro Q hQ; (rw [peek_own (by simp (disch := first | omega | decide) only [go_sem, f0, cellsOf_ch, cellsOf_lsa, byte_wrap, List.append_assoc, ← numR_one]; rfl)]; (try rw [sub_full (by rfl)]); exact hQ)
          case hs' => rfl
          case ho => simp (disch := first | omega | decide) only [go_sem, f0, cellsOf_ch, cellsOf_lsa, byte_wrap, List.append_assoc, ← numR_one]; rfl
          case hsz => rfl
          case hhi => (simp [numR_length, lsaB_len]; done)
          case hb => (simp only [List.length_cons, List.length_nil, List.length_map, Nat.zero_add, Nat.reduceAdd, roomB]; omega)
          case hy => exact all_cells rfl
          case k => (try simp only [List.nil_append, ← List.map_append, Bool.false_and]); exact hK _
        apply aops_step (by decide) rfl
        · intro K hK
          simp (disch := first | omega | decide) only [go_sem, f0, cellsOf_ch, cellsOf_lsa, byte_wrap, List.append_assoc, ← numR_one]
          rw [asg_tmp (by simp (disch := first | omega | decide) only [go_sem, f0, cellsOf_ch, cellsOf_lsa, byte_wrap, List.append_assoc, ← numR_one]; rfl)]
          exact hK _
        refine aops_nil ?_
        refine AW.seq ?_
        refine AW.region (cfg := cfg3) ?_
        iterate 1 (apply aops_step (by decide) rfl; · (intro K hK; simp (disch := first | omega | decide) only [go_sem, f0, cellsOf_ch, cellsOf_lsa, byte_wrap, List.append_assoc, ← numR_one]; exact hK _))
        apply aops_step (by decide) rfl
        · intro K hK
          simp (disch := first | omega | decide) only [go_sem, f0, act_fieldAddr_t fo74_2, List.map, cellsOf_ch, cellsOf_lsa, byte_wrap, List.append_assoc, ← numR_one]
          rw [mwp_fieldAddr_b (by simp (disch := first | omega | decide) only [go_sem, f0, cellsOf_ch, cellsOf_lsa, byte_wrap, List.append_assoc, ← numR_one]; rfl)]
          exact hK _
        apply aops_step (by decide) rfl
        · intro K hK
          simp (disch := first | omega | decide) only [go_sem, f0, act_load_t ti3, List.map, cellsOf_ch, cellsOf_lsa, byte_wrap, List.append_assoc, ← numR_one]
          rw [mwp_load_b1 (by simp (disch := first | omega | decide) only [go_sem, f0, cellsOf_ch, cellsOf_lsa, byte_wrap, List.append_assoc, ← numR_one]; rfl) (by rfl)]
          exact hK _
        iterate 1 (apply aops_step (by decide) rfl; · (intro K hK; simp (disch := first | omega | decide) only [go_sem, f0, act_convI u3 u97, cellsOf_ch, cellsOf_lsa, byte_wrap, List.append_assoc, ← numR_one]; exact hK _))
        apply aops_step (by decide) rfl
        · intro K hK
          simp (disch := first | omega | decide) only [go_sem, f0, act_call, List.map, cellsOf_ch, cellsOf_lsa, byte_wrap, List.append_assoc, ← numR_one]
          apply mwp_call_r rfl rfl rfl
          · intro Q hQ
            (simp (disch := first | omega | decide) only [go_sem, f0, peekL, reifyL_nil, reifyL_cons, reify_v, cellsOf_ch, cellsOf_lsa, byte_wrap, List.append_assoc, ← numR_one]; (exact hQ))
          · exact O.good_refNum 4 _ (by omega) (by omega)
          · simp [-List.map_take, -List.map_drop, -List.map_append, -List.map_replicate, -List.reduceReplicate, noPtrL, noPtr, noPtrL_bsl, noPtrL_map, sub]
          · rw [resOf_own1 (by (simp (disch := decide) only [mset_ne, hr]; done))]
            exact hK _
        apply aops_step (by decide) rfl
        · intro K hK
          simp (disch := first | omega | decide) only [go_sem, f0, List.map, cellsOf_ch, cellsOf_lsa, byte_wrap, List.append_assoc, ← numR_one]
          apply mwp_append2 el25 ti5 u25
          case hpk => intro Q hQ; (rw [peek_own (by simp (disch := first | omega | decide) only [go_sem, f0, cellsOf_ch, cellsOf_lsa, byte_wrap, List.append_assoc, ← numR_one]; rfl)]; (try rw [sub_full (by rfl)]); exact hQ)
          case hs' => rfl
          case ho => simp (disch := first | omega | decide) only [go_sem, f0, cellsOf_ch, cellsOf_lsa, byte_wrap, List.append_assoc, ← numR_one]; rfl
          case hsz => rfl
          case hhi => (simp [numR_length, lsaB_len]; done)
          case hb => (simp [sub, roomB, numR_length, lsaB_len]; done)
          case hy => exact all_cells rfl
          case k => (try simp only [List.nil_append, ← List.map_append, Bool.false_and]); exact hK _
        apply aops_step (by decide) rfl
        · intro K hK
          simp (disch := first | omega | decide) only [go_sem, f0, cellsOf_ch, cellsOf_lsa, byte_wrap, List.append_assoc, ← numR_one]
          rw [asg_tmp (by simp (disch := first | omega | decide) only [go_sem, f0, cellsOf_ch, cellsOf_lsa, byte_wrap, List.append_assoc, ← numR_one]; rfl)]
          exact hK _
        refine aops_nil ?_
        refine AW.ret ?_
        refine ⟨.inr rfl, ?_⟩
        refine leaves_frz1 2 rfl (by simp (disch := first | omega | decide) only [go_sem, f0, cellsOf_ch, cellsOf_lsa, byte_wrap, List.append_assoc, ← numR_one] <;> rfl) (by simp (disch := first | omega | decide) only [go_sem, f0, cellsOf_ch, cellsOf_lsa, byte_wrap, List.append_assoc, ← numR_one] <;> rfl) (by rw [sub_full (by (simp [numR_length]; done))]; (rw [ch_b4 hbt25, numR_one, numR_one]; rfl)) (by exact hG)
      case hf =>
        intro hb
        try simp only [Bool.or_eq_true, Bool.and_eq_true, Bool.or_eq_false_iff, Bool.and_eq_false_iff, decide_eq_true_eq, decide_eq_false_iff_not] at hb
        have hbt25 := hb
        refine AW.skip ?_
        refine AW.seq ?_
        refine AW.region (cfg := cfg3) ?_
        iterate 1 (apply aops_step (by decide) rfl; · (intro K hK; simp (disch := first | omega | decide) only [go_sem, f0, cellsOf_ch, cellsOf_lsa, byte_wrap, List.append_assoc, ← numR_one]; exact hK _))
        apply aops_step (by decide) rfl
        · intro K hK
          simp (disch := first | omega | decide) only [go_sem, f0, act_fieldAddr_t fo74_2, List.map, cellsOf_ch, cellsOf_lsa, byte_wrap, List.append_assoc, ← numR_one]
          rw [mwp_fieldAddr_b (by simp (disch := first | omega | decide) only [go_sem, f0, cellsOf_ch, cellsOf_lsa, byte_wrap, List.append_assoc, ← numR_one]; rfl)]
          exact hK _
        apply aops_step (by decide) rfl
        · intro K hK
          simp (disch := first | omega | decide) only [go_sem, f0, act_load_t ti3, List.map, cellsOf_ch, cellsOf_lsa, byte_wrap, List.append_assoc, ← numR_one]
          rw [mwp_load_b1 (by simp (disch := first | omega | decide) only [go_sem, f0, cellsOf_ch, cellsOf_lsa, byte_wrap, List.append_assoc, ← numR_one]; rfl) (by rfl)]
          exact hK _
        iterate 1 (apply aops_step (by decide) rfl; · (intro K hK; simp (disch := first | omega | decide) only [go_sem, f0, act_convI u3 u97, cellsOf_ch, cellsOf_lsa, byte_wrap, List.append_assoc, ← numR_one]; exact hK _))
        apply aops_step (by decide) rfl
        · intro K hK
          simp (disch := first | omega | decide) only [go_sem, f0, act_call, List.map, cellsOf_ch, cellsOf_lsa, byte_wrap, List.append_assoc, ← numR_one]
          apply mwp_call_r rfl rfl rfl
          · intro Q hQ
            (simp (disch := first | omega | decide) only [go_sem, f0, peekL, reifyL_nil, reifyL_cons, reify_v, cellsOf_ch, cellsOf_lsa, byte_wrap, List.append_assoc, ← numR_one]; (exact hQ))
          · exact O.good_refNum 4 _ (by omega) (by omega)
          · simp [-List.map_take, -List.map_drop, -List.map_append, -List.map_replicate, -List.reduceReplicate, noPtrL, noPtr, noPtrL_bsl, noPtrL_map, sub]
          · rw [resOf_own1 (by (simp (disch := decide) only [mset_ne, hr]; done))]
            exact hK _
        apply aops_step (by decide) rfl
        · intro K hK
          simp (disch := first | omega | decide) only [go_sem, f0, List.map, cellsOf_ch, cellsOf_lsa, byte_wrap, List.append_assoc, ← numR_one]
          apply mwp_append2 el25 ti5 u25
          case hpk => intro Q hQ; (rw [peek_own (by simp (disch := first | omega | decide) only [go_sem, f0, cellsOf_ch, cellsOf_lsa, byte_wrap, List.append_assoc, ← numR_one]; rfl)]; (try rw [sub_full (by rfl)]); exact hQ)
          case hs' => rfl
          case ho => simp (disch := first | omega | decide) only [go_sem, f0, cellsOf_ch, cellsOf_lsa, byte_wrap, List.append_assoc, ← numR_one]; rfl
          case hsz => rfl
          case hhi => (simp [numR_length, lsaB_len]; done)
          case hb => (simp [sub, roomB, numR_length, lsaB_len]; done)
          case hy => exact all_cells rfl
          case k => (try simp only [List.nil_append, ← List.map_append, Bool.false_and]); exact hK _
        apply aops_step (by decide) rfl
        · intro K hK
          simp (disch := first | omega | decide) only [go_sem, f0, cellsOf_ch, cellsOf_lsa, byte_wrap, List.append_assoc, ← numR_one]
          rw [asg_tmp (by simp (disch := first | omega | decide) only [go_sem, f0, cellsOf_ch, cellsOf_lsa, byte_wrap, List.append_assoc, ← numR_one]; rfl)]
          exact hK _
        refine aops_nil ?_
        refine AW.ret ?_
        refine ⟨.inr rfl, ?_⟩
        refine leaves_frz1 2 rfl (by simp (disch := first | omega | decide) only [go_sem, f0, cellsOf_ch, cellsOf_lsa, byte_wrap, List.append_assoc, ← numR_one] <;> rfl) (by simp (disch := first | omega | decide) only [go_sem, f0, cellsOf_ch, cellsOf_lsa, byte_wrap, List.append_assoc, ← numR_one] <;> rfl) (by rw [sub_full (by (simp [numR_length]; done))]; (rw [ch_b3 (by omega), numR_one]; rfl)) (by exact hG)

set_option maxHeartbeats 4000000 in
set_option maxRecDepth 100000 in
theorem good_refPutC (nil : Bool) (l : List Ch) (hl : l.length ≤ 9223372036854775807) (pl : ∀ c ∈ l, c.l.ls.length ≤ 9223372036854775807) (hok : allCh l = true) (h40 : l.length ≤ 50) : Good Try.prog 53 [(.sl 6 nil (l.map chA), false)] [] [(.sl 1 false (bsl (putB l)), false)] [] := by
  refine good_of_body2 23 Try.func53 rfl rfl rfl (by simp) ?_
  intro s m ha hr hv hG
  have f0 : s 0 = .v (.sl 6 nil (l.map chA)) := ha 0 _ rfl
  clear ha
  refine AW.seq ?_
  refine AW.region (cfg := cfg3) ?_
  iterate 1 (apply aops_step (by decide) rfl; · (intro K hK; simp (disch := first | omega | decide) only [go_sem, f0, sz25, cellsOf_ch, cellsOf_lsa, byte_wrap, List.append_assoc, ← numR_one]; exact hK _))
  refine aops_nil ?_
  refine AW.seq ?_
  refine AW.region (cfg := cfg3) ?_
  iterate 3 (apply aops_step (by decide) rfl; · (intro K hK; simp (disch := first | omega | decide) only [go_sem, f0, List.map, List.length_map, aops_len u65, act_convI u3 u5, cellsOf_ch, cellsOf_lsa, byte_wrap, List.append_assoc, ← numR_one]; exact hK _))
  apply aops_step (by decide) rfl
  · intro K hK
    rw [act_bs el25 ti5]
    (simp [-List.map_take, -List.map_drop, -BitVec.toNat_ofInt, -BitVec.ofInt_natCast, -BitVec.toNat_setWidth, -BitVec.toNat_ushiftRight, -BitVec.toNat_umod, -BitVec.toNat_udiv, go_sem, elems_v, cellishAV, Value.oneCell', isAggAV, partsOf, TI.z, TI.mk1, f0]; exact hK _)
  apply aops_step (by decide) rfl
  · intro K hK
    simp (disch := first | omega | decide) only [go_sem, f0, cellsOf_ch, cellsOf_lsa, byte_wrap, List.append_assoc, ← numR_one]
    rw [asg_tmp (by simp (disch := first | omega | decide) only [go_sem, f0, cellsOf_ch, cellsOf_lsa, byte_wrap, List.append_assoc, ← numR_one]; rfl)]
    exact hK _
  refine aops_nil ?_
  refine AW.seq ?_
  refine AW.seq ?_
  refine AW.region (cfg := cfg3) ?_
  iterate 1 (apply aops_step (by decide) rfl; · (intro K hK; simp (disch := first | omega | decide) only [go_sem, f0, cellsOf_ch, cellsOf_lsa, byte_wrap, List.append_assoc, ← numR_one]; exact hK _))
  refine aops_nil ?_
  refine AW.block ?_
  refine AW.forN (fun k σ => ∃ s m, σ = ⟨23, s, m⟩ ∧ s 0 = .v (.sl 6 nil (l.map chA)) ∧ s 3 = .own (.var 3) (m.objs (.var 3)).1 0 (1 + (chsB (l.take k)).length) ∧ (m.objs (.var 3)).2 = .arr false 1 (bsl (numR (l.length : Int) 1 ++ chsB (l.take k))) ∧ s 4 = .v (i64 (k : Int)) ∧ (allCh (l.take k) = true) ∧ (∀ i, (m.objs (.res i)).2 = .dead) ∧ m.G = []) (l.length) ?_ ?_ ?_
  · refine ⟨_, _, rfl, ?_, ?_, ?_, ?_, ?_, (by intro i; simp [Mem.set, hr]), (by exact hG)⟩ <;> try simp (disch := first | omega | decide) only [go_sem, f0, cellsOf_ch, cellsOf_lsa, byte_wrap, List.append_assoc, ← numR_one]
    all_goals first | rfl | (simp [chsB, numR_one]; done)
  · clear f0 hr hG
    rintro k σ hk ⟨s, m, rfl, f0, f3, o3, f4, mo0, hr, hG⟩
    obtain ⟨g3, o3⟩ : ∃ g, m.objs (.var 3) = (g, .arr false 1 (bsl (numR (l.length : Int) 1 ++ chsB (l.take k)))) := ⟨_, Prod.ext rfl o3⟩
    rw [o3] at f3
    refine AW.seq ?_
    refine AW.seq ?_
    refine AW.region (cfg := cfg3) ?_
    iterate 4 (apply aops_step (by decide) rfl; · (intro K hK; simp (disch := first | omega | decide) only [go_sem, f0, f3, f4, o3, List.map, List.length_map, aops_len u65, cellsOf_ch, cellsOf_lsa, byte_wrap, List.append_assoc, ← numR_one]; exact hK _))
    refine aops_nil ?_
    apply AW.cond
    · simp (disch := first | omega | decide) only [go_sem, f0, f3, f4, o3, cellsOf_ch, cellsOf_lsa, byte_wrap, List.append_assoc, ← numR_one]; rfl
    case hf => intro hb; (simp at hb; omega)
    case ht =>
    intro hb
    have hbt12 := hb
    refine AW.skip ?_
    refine AW.seq ?_
    refine AW.block ?_
    have pkl := pl l[k] (List.getElem_mem hk)
    have okk : chOK l[k] = true := List.all_eq_true.1 hok _ (List.getElem_mem hk)
    have cbl := chB_len okk
    have tkl := take_le mo0
    have ctk := chsB_take hk
    refine AW.region (cfg := cfg3) ?_
    iterate 3 (apply aops_step (by decide) rfl; · (intro K hK; simp (disch := first | omega | decide) only [go_sem, f0, f3, f4, o3, cellsOf_ch, cellsOf_lsa, byte_wrap, List.append_assoc, ← numR_one]; exact hK _))
    apply aops_step (by decide) rfl
    · intro K hK
      simp (disch := first | omega | decide) only [go_sem, f0, f3, f4, o3, act_indexAddr_s u65 ti74, List.map, cellsOf_ch, cellsOf_lsa, byte_wrap, List.append_assoc, ← numR_one]
      skip
      exact hK _
    apply aops_step (by decide) rfl
    · intro K hK
      simp (disch := first | omega | decide) only [go_sem, f0, f3, f4, o3, act_load_t ti74, List.map, cellsOf_ch, cellsOf_lsa, byte_wrap, List.append_assoc, ← numR_one]
      rw [mwp_load_is (by simp)]
      exact hK _
    apply aops_step (by decide) rfl
    · intro K hK
      simp (disch := first | omega | decide) only [go_sem, f0, f3, f4, o3, act_call, List.map, cellsOf_ch, cellsOf_lsa, byte_wrap, List.append_assoc, ← numR_one]
      apply mwp_call_r rfl rfl rfl
      · intro Q hQ
        (simp (disch := first | omega | decide) only [go_sem, f0, f3, f4, o3, peekL, reifyL_nil, reifyL_cons, reify_v, cellsOf_ch, cellsOf_lsa, byte_wrap, List.append_assoc, ← numR_one]; (exact hQ))
      · exact good_OneC l[k] okk pkl
      · simp [-List.map_take, -List.map_drop, -List.map_append, -List.map_replicate, -List.reduceReplicate, noPtrL, noPtr, noPtrL_bsl, noPtrL_map, sub]
      · simp (disch := first | omega | decide) only [go_sem, f0, f3, f4, o3, cellsOf_ch, cellsOf_lsa, byte_wrap, List.append_assoc, ← numR_one]
        exact hK _
    apply aops_step (by decide) rfl
    · intro K hK
      simp (disch := first | omega | decide) only [go_sem, f0, f3, f4, o3, List.map, cellsOf_ch, cellsOf_lsa, byte_wrap, List.append_assoc, ← numR_one]
      apply mwp_append2 el25 ti5 u25
      case hpk => intro Q hQ; exact hQ
      case hs' => rfl
      case ho => simp (disch := first | omega | decide) only [go_sem, f0, f3, f4, o3, cellsOf_ch, cellsOf_lsa, byte_wrap, List.append_assoc, ← numR_one]; rfl
      case hsz => rfl
      case hhi => (simp [numR_length]; done)
      case hb => (simp only [List.length_cons, List.length_nil, List.length_map, Nat.zero_add, Nat.reduceAdd, roomB]; omega)
      case hy => (simp [sub, cellsOf]; done)
      case k => (try simp only [List.nil_append, ← List.map_append, Bool.false_and]); exact hK _
    apply aops_step (by decide) rfl
    · intro K hK
      simp (disch := first | omega | decide) only [go_sem, f0, f3, f4, o3, cellsOf_ch, cellsOf_lsa, byte_wrap, List.append_assoc, ← numR_one]
      rw [asg_tmp (by simp (disch := first | omega | decide) only [go_sem, f0, f3, f4, o3, cellsOf_ch, cellsOf_lsa, byte_wrap, List.append_assoc, ← numR_one]; rfl)]
      exact hK _
    refine aops_nil ?_
    refine AW.region (cfg := cfg3) ?_
    iterate 3 (apply aops_step (by decide) rfl; · (intro K hK; simp (disch := first | omega | decide) only [go_sem, f0, f3, f4, o3, cellsOf_ch, cellsOf_lsa, byte_wrap, List.append_assoc, ← numR_one]; exact hK _))
    refine aops_nil ?_
    refine ⟨_, _, rfl, ?_, ?_, ?_, ?_, ?_, (by intro i; simp [Mem.set, hr]), (by exact hG)⟩ <;> try simp (disch := first | omega | decide) only [go_sem, f0, f3, f4, o3, cellsOf_ch, cellsOf_lsa, byte_wrap, List.append_assoc, ← numR_one]
    all_goals first | rfl | exact all_next hk mo0 okk | (rw [ctk]; done) | (rw [ctk]; simp; omega)
  · clear f0 hr hG
    rintro σ ⟨s, m, rfl, f0, f3, o3, f4, mo0, hr, hG⟩
    obtain ⟨g3, o3⟩ : ∃ g, m.objs (.var 3) = (g, .arr false 1 (bsl (numR (l.length : Int) 1 ++ chsB (l.take l.length)))) := ⟨_, Prod.ext rfl o3⟩
    rw [o3] at f3
    refine AW.seq ?_
    refine AW.seq ?_
    refine AW.region (cfg := cfg3) ?_
    iterate 4 (apply aops_step (by decide) rfl; · (intro K hK; simp (disch := first | omega | decide) only [go_sem, f0, f3, f4, o3, List.map, List.length_map, aops_len u65, cellsOf_ch, cellsOf_lsa, byte_wrap, List.append_assoc, ← numR_one]; exact hK _))
    refine aops_nil ?_
    apply AW.cond
    · simp (disch := first | omega | decide) only [go_sem, f0, f3, f4, o3, cellsOf_ch, cellsOf_lsa, byte_wrap, List.append_assoc, ← numR_one]; rfl
    case ht => intro hb; (simp at hb; done)
    case hf =>
    intro hb
    have hbt12 := hb
    refine AW.exit ?_
    refine AW.seq ?_
    refine AW.region (cfg := cfg3) ?_
    iterate 1 (apply aops_step (by decide) rfl; · (intro K hK; simp (disch := first | omega | decide) only [go_sem, f0, f3, f4, o3, cellsOf_ch, cellsOf_lsa, byte_wrap, List.append_assoc, ← numR_one]; exact hK _))
    apply aops_step (by decide) rfl
    · intro K hK
      simp (disch := first | omega | decide) only [go_sem, f0, f3, f4, o3, cellsOf_ch, cellsOf_lsa, byte_wrap, List.append_assoc, ← numR_one]
      rw [asg_fz (by rfl) (by decide) (by simp (disch := first | omega | decide) only [go_sem, f0, f3, f4, o3, cellsOf_ch, cellsOf_lsa, byte_wrap, List.append_assoc, ← numR_one] <;> rfl)]
      exact hK _
    refine aops_nil ?_
    refine AW.ret ?_
    refine ⟨.inr rfl, ?_⟩
    refine leaves_tmp1 2 rfl ?_ (by exact hG)
    simp (disch := first | omega | decide) only [go_sem, f0, f3, f4, o3, cellsOf_ch, cellsOf_lsa, byte_wrap, List.append_assoc, ← numR_one]
    all_goals (rw [sub_full (by simp [numR_length])]; simp only [List.take_length, putB]; done)

end Go.Vai.C
