import Derived.Test.YtblgcekomnnfmaagRec2
import Derived.Test.YtblgcekomnnfmaaRecBk
namespace Go.Vai.R
open Go.Proofs Go.Vai Go.Vai.G Go.Vai.L Go.Vai.O Go.Vai.U Go.Vai.Z
set_option linter.unusedSimpArgs false
set_option linter.unusedVariables false

set_option maxHeartbeats 4000000 in
set_option maxRecDepth 100000 in
theorem good_refMayR (nil : Bool) (l : List Page) (hl : l.length ≤ 9223372036854775807) (pl : ∀ x ∈ l, x.b.length ≤ 9223372036854775807) : Good Try.prog 51 [(.sl 7 nil (l.map pageA), false)] [] [(.b (l.all pageOK), false)] [] := by
  refine good_of_body2 16 Try.func51 rfl rfl rfl (by simp) ?_
  intro s m ha hr hv hG
  have f0 : s 0 = .v (.sl 7 nil (l.map pageA)) := ha 0 _ rfl
  clear ha
  refine AW.seq ?_
  refine AW.region (cfg := cfg) ?_
  iterate 1 (apply aops_step (by decide) rfl; · (intro K hK; simp (disch := first | omega | decide) only [go_sem, f0, cellsOf_page]; exact hK _))
  refine aops_nil ?_
  refine AW.seq ?_
  refine AW.seq ?_
  refine AW.region (cfg := cfg) ?_
  iterate 1 (apply aops_step (by decide) rfl; · (intro K hK; simp (disch := first | omega | decide) only [go_sem, f0, cellsOf_page]; exact hK _))
  refine aops_nil ?_
  refine AW.block ?_
  refine AW.forN (fun k σ => ∃ s m, σ = ⟨16, s, m⟩ ∧ s 0 = .v (.sl 7 nil (l.map pageA)) ∧ s 3 = .v (i64 (k : Int)) ∧ ((l.take k).all pageOK = true) ∧ m.G = []) (l.length) ?_ ?_ ?_
  · refine ⟨_, _, rfl, ?_, ?_, ?_, (by exact hG)⟩ <;> try simp (disch := first | omega | decide) only [go_sem, f0, cellsOf_page]
    all_goals rfl
  · clear f0 hG
    rintro k σ hk ⟨s, m, rfl, f0, f3, mo0, hG⟩
    refine AW.seq ?_
    refine AW.seq ?_
    refine AW.region (cfg := cfg) ?_
    iterate 4 (apply aops_step (by decide) rfl; · (intro K hK; simp (disch := first | omega | decide) only [go_sem, f0, f3, List.map, List.length_map, aops_len u91, cellsOf_page]; exact hK _))
    refine aops_nil ?_
    apply AW.cond
    · simp (disch := first | omega | decide) only [go_sem, f0, f3, cellsOf_page]; rfl
    case hf => intro hb; (simp at hb; omega)
    case ht =>
    intro hb
    have hbt7 := hb
    refine AW.skip ?_
    refine AW.seq ?_
    refine AW.block ?_
    refine AW.seq ?_
    have hkl : k < l.length := by assumption
    have pkl := pl l[k] (List.getElem_mem hkl)
    refine AW.region (cfg := cfg) ?_
    iterate 2 (apply aops_step (by decide) rfl; · (intro K hK; simp (disch := first | omega | decide) only [go_sem, f0, f3, cellsOf_page]; exact hK _))
    apply aops_step (by decide) rfl
    · intro K hK
      simp (disch := first | omega | decide) only [go_sem, f0, f3, act_indexAddr_s u91 ti58, List.map, cellsOf_page]
      skip
      exact hK _
    apply aops_step (by decide) rfl
    · intro K hK
      simp (disch := first | omega | decide) only [go_sem, f0, f3, act_load_t ti58, List.map, cellsOf_page]
      rw [mwp_load_is (by simp)]
      exact hK _
    apply aops_step (by decide) rfl
    · intro K hK
      simp (disch := first | omega | decide) only [go_sem, f0, f3, act_call, List.map, cellsOf_page]
      apply mwp_call_s rfl rfl rfl
      · intro Q hQ
        (simp (disch := first | omega | decide) only [go_sem, f0, f3, peekL, reifyL_nil, reifyL_cons, reify_v, cellsOf_page]; (exact hQ))
      · exact good_refMayP l[k] pkl
      · simp [-List.map_take, -List.map_drop, -List.map_append, -List.map_replicate, -List.reduceReplicate, noPtrL, noPtr, noPtrL_bsl, noPtrL_map, sub]
      · rfl
      · exact hK _
    iterate 1 (apply aops_step (by decide) rfl; · (intro K hK; simp (disch := first | omega | decide) only [go_sem, f0, f3, cellsOf_page]; exact hK _))
    refine aops_nil ?_
    apply AW.cond
    · simp (disch := first | omega | decide) only [go_sem, f0, f3, cellsOf_page]; rfl
    case ht =>
      intro hb
      try simp only [Bool.or_eq_true, Bool.and_eq_true, Bool.or_eq_false_iff, Bool.and_eq_false_iff, decide_eq_true_eq, decide_eq_false_iff_not] at hb
      have hbt15 := hb
      refine AW.seq ?_
      refine AW.region (cfg := cfg) ?_
      iterate 1 (apply aops_step (by decide) rfl; · (intro K hK; simp (disch := first | omega | decide) only [go_sem, f0, f3, cellsOf_page]; exact hK _))
      refine aops_nil ?_
      refine AW.ret ?_
      refine ⟨.inr rfl, ?_⟩
      refine leaves_tmp1 2 rfl ?_ (by exact hG)
      simp (disch := first | omega | decide) only [go_sem, f0, f3, cellsOf_page]
      all_goals (rw [all_at hk hb]; done)
    case hf =>
      intro hb
      try simp only [Bool.or_eq_true, Bool.and_eq_true, Bool.or_eq_false_iff, Bool.and_eq_false_iff, decide_eq_true_eq, decide_eq_false_iff_not] at hb
      have hbt15 := hb
      refine AW.skip ?_
      refine AW.region (cfg := cfg) ?_
      iterate 3 (apply aops_step (by decide) rfl; · (intro K hK; simp (disch := first | omega | decide) only [go_sem, f0, f3, cellsOf_page]; exact hK _))
      refine aops_nil ?_
      refine ⟨_, _, rfl, ?_, ?_, ?_, (by exact hG)⟩ <;> try simp (disch := first | omega | decide) only [go_sem, f0, f3, cellsOf_page]
      all_goals first | rfl | exact all_step hk mo0 hb
  · clear f0 hG
    rintro σ ⟨s, m, rfl, f0, f3, mo0, hG⟩
    refine AW.seq ?_
    refine AW.seq ?_
    refine AW.region (cfg := cfg) ?_
    iterate 4 (apply aops_step (by decide) rfl; · (intro K hK; simp (disch := first | omega | decide) only [go_sem, f0, f3, List.map, List.length_map, aops_len u91, cellsOf_page]; exact hK _))
    refine aops_nil ?_
    apply AW.cond
    · simp (disch := first | omega | decide) only [go_sem, f0, f3, cellsOf_page]; rfl
    case ht => intro hb; (simp at hb; done)
    case hf =>
    intro hb
    have hbt7 := hb
    refine AW.exit ?_
    refine AW.seq ?_
    refine AW.region (cfg := cfg) ?_
    iterate 1 (apply aops_step (by decide) rfl; · (intro K hK; simp (disch := first | omega | decide) only [go_sem, f0, f3, cellsOf_page]; exact hK _))
    refine aops_nil ?_
    refine AW.ret ?_
    refine ⟨.inr rfl, ?_⟩
    refine leaves_tmp1 2 rfl ?_ (by exact hG)
    simp (disch := first | omega | decide) only [go_sem, f0, f3, cellsOf_page]
    all_goals (rw [all_end mo0]; done)

theorem sp_lt {b : List (BitVec 8)} {k : Nat} (h : k < (parts (b.length : Int)).toNat) : b.length ≤ 7808 ∧ 1 ≤ parts (b.length : Int) ∧ parts (b.length : Int) ≤ 16 ∧ 488 * k ≤ b.length := by
  by_cases hc : (b.length : Int) < 0 ∨ (b.length : Int) > 7808
  · rw [parts_no hc] at h; simp at h
  · have := parts_is hc
    refine ⟨by omega, this.1, this.2.1, ?_⟩
    by_cases e : k = 0
    · omega
    · have := this.2.2.2 (by omega); omega
theorem ch_cut {b : List (BitVec 8)} {k : Nat} {n : Int} (h : n = ((k : Int) + 1) * 488) : (b.take n.toNat).drop ((k : Int) * 488).toNat = chunk b k := by
  subst h
  rw [show (((k : Int) + 1) * 488).toNat = 488 * k + 488 by omega, show ((k : Int) * 488).toNat = 488 * k by omega]
  rw [chunk, List.drop_take]; congr 1; omega
theorem chunk_len (b : List (BitVec 8)) (k : Nat) : (chunk b k).length ≤ 488 := by simp [chunk]; omega
theorem ch_end {b : List (BitVec 8)} {k : Nat} (h : ((k : Int) + 1) * 488 > (b.length : Int)) : b.drop ((k : Int) * 488).toNat = chunk b k := by
  rw [show ((k : Int) * 488).toNat = 488 * k by omega, chunk, List.take_of_length_le (by simp; omega)]
set_option maxHeartbeats 4000000 in
set_option maxRecDepth 100000 in
theorem good_refSplit (p : Page) (hp : p.b.length ≤ 9223372036854775807) (nil : Bool) (b : List (BitVec 8)) (hb0 : b.length ≤ 140737488350000) (hx : -4611686018427387904 ≤ p.idx ∧ p.idx ≤ 4611686018427387904) : Good Try.prog 50 [(pageA p, false), (.sl 1 nil (bsl b), false)] [] [(.sl 7 false ((splitP p false b (parts (b.length : Int)).toNat).map pageA), false)] [] := by
  refine good_of_body2 51 Try.func50 rfl rfl rfl (by simp) ?_
  intro s m ha hr hv hG
  have f0 : s 0 = .v (.agg [i64 p.kind, i64 p.gen, i64 p.mark, i64 p.idx, i64 p.part, i64 p.parts, .sl 1 p.nil (bsl p.b)]) := ha 0 _ rfl
  have f1 : s 1 = .v (.sl 1 nil (bsl b)) := ha 1 _ rfl
  clear ha
  refine AW.seq ?_
  refine AW.region (cfg := cfg4) ?_
  apply aops_step (by decide) rfl
  · intro K hK
    simp (disch := first | omega | decide) only [go_sem, f0, f1, act_box_t ti58, List.map, cellsOf_page, Bool.false_and]
    rw [settleL_vish _ _ (by rfl)]
    simp (disch := first | omega | decide) only [go_sem, f0, f1, cellsL, List.map, List.length_cons, List.length_nil, Nat.reduceAdd, if_true, cellsOf_page, Bool.false_and]
    exact hK _
  iterate 1 (apply aops_step (by decide) rfl; · (intro K hK; simp (disch := first | omega | decide) only [go_sem, f0, f1, sz91, cellsOf_page, Bool.false_and]; exact hK _))
  refine aops_nil ?_
  refine AW.seq ?_
  refine AW.region (cfg := cfg4) ?_
  apply aops_step (by decide) rfl
  · intro K hK
    rw [act_bs el91 ti58]
    (simp [-List.map_take, -List.map_drop, -BitVec.toNat_ofInt, -BitVec.ofInt_natCast, -BitVec.toNat_setWidth, -BitVec.toNat_ushiftRight, -BitVec.toNat_umod, -BitVec.toNat_udiv, go_sem, elems_v, cellishAV, Value.oneCell', isAggAV, partsOf, TI.z, TI.mk1, f0, f1]; exact hK _)
  apply aops_step (by decide) rfl
  · intro K hK
    simp (disch := first | omega | decide) only [go_sem, f0, f1, cellsOf_page, Bool.false_and]
    rw [asg_tmp (by simp (disch := first | omega | decide) only [go_sem, f0, f1, cellsOf_page, Bool.false_and]; rfl)]
    exact hK _
  refine aops_nil ?_
  refine AW.seq ?_
  refine AW.region (cfg := cfg4) ?_
  iterate 2 (apply aops_step (by decide) rfl; · (intro K hK; simp (disch := first | omega | decide) only [go_sem, f0, f1, List.map, List.length_map, aops_len u22, cellsOf_page, Bool.false_and]; exact hK _))
  apply aops_step (by decide) rfl
  · intro K hK
    simp (disch := first | omega | decide) only [go_sem, f0, f1, act_call, List.map, cellsOf_page, Bool.false_and]
    apply mwp_call_s rfl rfl rfl
    · intro Q hQ
      (simp (disch := first | omega | decide) only [go_sem, f0, f1, peekL, reifyL_nil, reifyL_cons, reify_v, cellsOf_page, Bool.false_and]; (exact hQ))
    · exact good_refParts _ (by omega)
    · simp [-List.map_take, -List.map_drop, -List.map_append, -List.map_replicate, -List.reduceReplicate, noPtrL, noPtr, noPtrL_bsl, noPtrL_map, sub]
    · rfl
    · exact hK _
  iterate 1 (apply aops_step (by decide) rfl; · (intro K hK; simp (disch := first | omega | decide) only [go_sem, f0, f1, cellsOf_page, Bool.false_and]; exact hK _))
  refine aops_nil ?_
  refine AW.seq ?_
  refine AW.seq ?_
  refine AW.region (cfg := cfg4) ?_
  iterate 1 (apply aops_step (by decide) rfl; · (intro K hK; simp (disch := first | omega | decide) only [go_sem, f0, f1, cellsOf_page, Bool.false_and]; exact hK _))
  refine aops_nil ?_
  refine AW.block ?_
  refine AW.forN (fun k σ => ∃ s m, σ = ⟨51, s, m⟩ ∧ s 1 = .v (.sl 1 nil (bsl b)) ∧ s 2 = .lptr (.tmp 2 0) (m.objs (.tmp 2 0)).1 0 ∧ (m.objs (.tmp 2 0)).2 = .box [.v (i64 p.kind), .v (i64 p.gen), .v (i64 p.mark), .v (i64 p.idx), .v (i64 p.part), .v (i64 p.parts), .v (.sl 1 p.nil (bsl p.b))] ∧ s 5 = .own (.var 5) (m.objs (.var 5)).1 0 (k) ∧ (m.objs (.var 5)).2 = .arr false 7 ((splitP p false b k).map pageA) ∧ s 6 = .v (i64 (parts (b.length : Int))) ∧ s 7 = .v (i64 (k : Int)) ∧ (∀ i, (m.objs (.res i)).2 = .dead) ∧ m.G = []) ((parts (b.length : Int)).toNat) ?_ ?_ ?_
  · refine ⟨_, _, rfl, ?_, ?_, ?_, ?_, ?_, ?_, ?_, (by intro i; simp [Mem.set, hr]), (by exact hG)⟩ <;> try simp (disch := first | omega | decide) only [go_sem, f0, f1, cellsOf_page, Bool.false_and]
    all_goals rfl
  · clear f0 f1 hr hG
    rintro k σ hk ⟨s, m, rfl, f1, f2, o2, f5, o5, f6, f7, hr, hG⟩
    obtain ⟨g2, o2⟩ : ∃ g, m.objs (.tmp 2 0) = (g, .box [.v (i64 p.kind), .v (i64 p.gen), .v (i64 p.mark), .v (i64 p.idx), .v (i64 p.part), .v (i64 p.parts), .v (.sl 1 p.nil (bsl p.b))]) := ⟨_, Prod.ext rfl o2⟩
    rw [o2] at f2
    obtain ⟨g5, o5⟩ : ∃ g, m.objs (.var 5) = (g, .arr false 7 ((splitP p false b k).map pageA)) := ⟨_, Prod.ext rfl o5⟩
    rw [o5] at f5
    refine AW.seq ?_
    refine AW.seq ?_
    refine AW.region (cfg := cfg4) ?_
    iterate 3 (apply aops_step (by decide) rfl; · (intro K hK; simp (disch := first | omega | decide) only [go_sem, f1, f2, f5, f6, f7, o2, o5, cellsOf_page, Bool.false_and]; exact hK _))
    refine aops_nil ?_
    apply AW.cond
    · simp (disch := first | omega | decide) only [go_sem, f1, f2, f5, f6, f7, o2, o5, cellsOf_page, Bool.false_and]; rfl
    case hf => intro hb; (simp at hb; omega)
    case ht =>
    intro hb
    have hbt15 := hb
    refine AW.skip ?_
    refine AW.seq ?_
    refine AW.block ?_
    refine AW.seq ?_
    obtain ⟨s1, s2, s3, s4⟩ := sp_lt hk
    refine AW.region (cfg := cfg4) ?_
    iterate 4 (apply aops_step (by decide) rfl; · (intro K hK; simp (disch := first | omega | decide) only [go_sem, f1, f2, f5, f6, f7, o2, o5, cellsOf_page, Bool.false_and]; exact hK _))
    refine aops_nil ?_
    refine AW.seq ?_
    refine AW.seq ?_
    refine AW.region (cfg := cfg4) ?_
    iterate 4 (apply aops_step (by decide) rfl; · (intro K hK; simp (disch := first | omega | decide) only [go_sem, f1, f2, f5, f6, f7, o2, o5, List.map, List.length_map, aops_len u22, cellsOf_page, Bool.false_and]; exact hK _))
    refine aops_nil ?_
    apply AW.cond
    · simp (disch := first | omega | decide) only [go_sem, f1, f2, f5, f6, f7, o2, o5, cellsOf_page, Bool.false_and]; rfl
    case ht =>
      intro hb
      try simp only [Bool.or_eq_true, Bool.and_eq_true, Bool.or_eq_false_iff, Bool.and_eq_false_iff, decide_eq_true_eq, decide_eq_false_iff_not] at hb
      have hbt24 := hb
      refine AW.region (cfg := cfg4) ?_
      iterate 3 (apply aops_step (by decide) rfl; · (intro K hK; simp (disch := first | omega | decide) only [go_sem, f1, f2, f5, f6, f7, o2, o5, List.map, List.length_map, aops_len u22, cellsOf_page, Bool.false_and]; exact hK _))
      refine aops_nil ?_
      (have cc := ch_end (b := b) (k := k) hb; have hcl3 := congrArg List.length cc; rw [List.length_drop] at hcl3)
      have hcl := chunk_len b k
      refine AW.draw (cfg := cfg4) (by kernel_rfl) (by kernel_rfl) (by kernel_rfl) ?_
      iterate 1 (apply adraw_step rfl; · (intro K hK; simp (disch := first | omega | decide) only [go_sem, f1, f2, f5, f6, f7, o2, o5, cc, cellsOf_page, Bool.false_and]; exact hK))
      apply adraw_step rfl
      · intro K hK
        simp (disch := first | omega | decide) only [go_sem, f1, f2, f5, f6, f7, o2, o5, cc, act_fieldAddr_t fo58_0, List.map, cellsOf_page, Bool.false_and]
        rw [mwp_fieldAddr_b (by simp (disch := first | omega | decide) only [go_sem, f1, f2, f5, f6, f7, o2, o5, cc, cellsOf_page, Bool.false_and]; rfl)]
        exact hK
      apply adraw_step rfl
      · intro K hK
        simp (disch := first | omega | decide) only [go_sem, f1, f2, f5, f6, f7, o2, o5, cc, act_load_t ti3, List.map, cellsOf_page, Bool.false_and]
        rw [mwp_load_b1 (by simp (disch := first | omega | decide) only [go_sem, f1, f2, f5, f6, f7, o2, o5, cc, cellsOf_page, Bool.false_and]; rfl) (by rfl)]
        exact hK
      apply adraw_step rfl
      · intro K hK
        simp (disch := first | omega | decide) only [go_sem, f1, f2, f5, f6, f7, o2, o5, cc, act_fieldAddr_t fo58_1, List.map, cellsOf_page, Bool.false_and]
        rw [mwp_fieldAddr_b (by simp (disch := first | omega | decide) only [go_sem, f1, f2, f5, f6, f7, o2, o5, cc, cellsOf_page, Bool.false_and]; rfl)]
        exact hK
      apply adraw_step rfl
      · intro K hK
        simp (disch := first | omega | decide) only [go_sem, f1, f2, f5, f6, f7, o2, o5, cc, act_load_t ti3, List.map, cellsOf_page, Bool.false_and]
        rw [mwp_load_b1 (by simp (disch := first | omega | decide) only [go_sem, f1, f2, f5, f6, f7, o2, o5, cc, cellsOf_page, Bool.false_and]; rfl) (by rfl)]
        exact hK
      apply adraw_step rfl
      · intro K hK
        simp (disch := first | omega | decide) only [go_sem, f1, f2, f5, f6, f7, o2, o5, cc, act_fieldAddr_t fo58_2, List.map, cellsOf_page, Bool.false_and]
        rw [mwp_fieldAddr_b (by simp (disch := first | omega | decide) only [go_sem, f1, f2, f5, f6, f7, o2, o5, cc, cellsOf_page, Bool.false_and]; rfl)]
        exact hK
      apply adraw_step rfl
      · intro K hK
        simp (disch := first | omega | decide) only [go_sem, f1, f2, f5, f6, f7, o2, o5, cc, act_load_t ti3, List.map, cellsOf_page, Bool.false_and]
        rw [mwp_load_b1 (by simp (disch := first | omega | decide) only [go_sem, f1, f2, f5, f6, f7, o2, o5, cc, cellsOf_page, Bool.false_and]; rfl) (by rfl)]
        exact hK
      apply adraw_step rfl
      · intro K hK
        simp (disch := first | omega | decide) only [go_sem, f1, f2, f5, f6, f7, o2, o5, cc, act_fieldAddr_t fo58_3, List.map, cellsOf_page, Bool.false_and]
        rw [mwp_fieldAddr_b (by simp (disch := first | omega | decide) only [go_sem, f1, f2, f5, f6, f7, o2, o5, cc, cellsOf_page, Bool.false_and]; rfl)]
        exact hK
      apply adraw_step rfl
      · intro K hK
        simp (disch := first | omega | decide) only [go_sem, f1, f2, f5, f6, f7, o2, o5, cc, act_load_t ti3, List.map, cellsOf_page, Bool.false_and]
        rw [mwp_load_b1 (by simp (disch := first | omega | decide) only [go_sem, f1, f2, f5, f6, f7, o2, o5, cc, cellsOf_page, Bool.false_and]; rfl) (by rfl)]
        exact hK
      iterate 4 (apply adraw_step rfl; · (intro K hK; simp (disch := first | omega | decide) only [go_sem, f1, f2, f5, f6, f7, o2, o5, cc, cellsOf_page, Bool.false_and]; exact hK))
      apply adraw_step rfl
      · intro K hK
        rw [act_bs el22 ti5]
        (simp [-List.map_take, -List.map_drop, -BitVec.toNat_ofInt, -BitVec.ofInt_natCast, -BitVec.toNat_setWidth, -BitVec.toNat_ushiftRight, -BitVec.toNat_umod, -BitVec.toNat_udiv, go_sem, elems_v, cellishAV, Value.oneCell', isAggAV, partsOf, TI.z, TI.mk1, f1, f2, f5, f6, f7, o2, o5, cc]; exact hK)
      iterate 5 (apply adraw_step rfl; · (intro K hK; simp (disch := first | omega | decide) only [go_sem, f1, f2, f5, f6, f7, o2, o5, cc, act_slice_s u22 ti5, cellsOf_page, Bool.false_and]; exact hK))
      apply adraw_step rfl
      · intro K hK
        simp (disch := first | omega | decide) only [go_sem, f1, f2, f5, f6, f7, o2, o5, cc, List.map, cellsOf_page, Bool.false_and]
        apply mwp_append2 el22 ti5 u22
        case hpk => intro Q hQ; exact hQ
        case hs' => rfl
        case ho => simp (disch := first | omega | decide) only [go_sem, f1, f2, f5, f6, f7, o2, o5, cc, cellsOf_page, Bool.false_and]; rfl
        case hsz => rfl
        case hhi => (simp [splitP_len]; done)
        case hb => (simp [sub, roomB, splitP_len]; omega)
        case hy => (intro y hy; exact cells_map (k := 1) (fun _ => rfl) y hy)
        case k => (try simp only [List.nil_append, ← List.map_append, Bool.false_and]); exact hK
      apply adraw_step rfl
      · intro K hK
        simp (disch := first | omega | decide) only [go_sem, f1, f2, f5, f6, f7, o2, o5, cc, act_build_t ti58 pl58, List.map, cellsOf_page, Bool.false_and]
        simp [-List.map_take, -List.map_drop, fillL, okOne, cellishAV, Value.oneCell', cellsL, cellsOf, setAt, M.bind, Mwp, mset_same, Obj.isArr, o2, o5]
        exact hK
      apply adraw_step rfl
      · intro K hK
        rw [act_bs el91 ti58]
        (simp (disch := first | omega | decide) only [go_sem, f1, f2, f5, f6, f7, o2, o5, cc, List.map, elems_cons, cellsOf_page, Bool.false_and]; rw [if_pos (by decide)]; simp (disch := first | omega | decide) only [go_sem, f1, f2, f5, f6, f7, o2, o5, cc, List.map, elems_cons, cellsOf_page, Bool.false_and]; rw [mwp_reify_agg]; (repeat (first | rw [mwp_reifyL_v] | rw [mwp_reifyL_arr (by simp (disch := first | omega | decide) only [go_sem, f1, f2, f5, f6, f7, o2, o5, cc, List.map, elems_cons, cellsOf_page, Bool.false_and]; rfl)])); rw [mwp_reifyL_nil]; (repeat (rw [sub_full (by (simp [splitP_len]; omega))])); simp [-List.map_take, -List.map_drop, -BitVec.toNat_ofInt, go_sem, cellishAV, Value.oneCell', isAggAV, partsOf, TI.z, TI.mk1, mwp_if, cellsOf]; exact hK)
      apply adraw_step rfl
      · intro K hK
        simp (disch := first | omega | decide) only [go_sem, f1, f2, f5, f6, f7, o2, o5, cc, List.map, cellsOf_page, Bool.false_and]
        apply mwp_append2 el91 ti58 u91
        case hpk => intro Q hQ; (rw [peek_own (by simp (disch := first | omega | decide) only [go_sem, f1, f2, f5, f6, f7, o2, o5, cc, cellsOf_page, Bool.false_and]; rfl)]; (try rw [sub_full (by rfl)]); exact hQ)
        case hs' => rfl
        case ho => simp (disch := first | omega | decide) only [go_sem, f1, f2, f5, f6, f7, o2, o5, cc, cellsOf_page, Bool.false_and]; rfl
        case hsz => rfl
        case hhi => (simp [splitP_len]; done)
        case hb => (simp only [List.length_cons, List.length_nil, List.length_map, Nat.zero_add, Nat.reduceAdd, roomB]; omega)
        case hy => exact all_cells rfl
        case k => (try simp only [List.nil_append, ← List.map_append, Bool.false_and]); exact hK
      apply adraw_step rfl
      · intro K hK
        simp (disch := first | omega | decide) only [go_sem, f1, f2, f5, f6, f7, o2, o5, cc, cellsOf_page, Bool.false_and]
        rw [asg_tmp (by simp (disch := first | omega | decide) only [go_sem, f1, f2, f5, f6, f7, o2, o5, cc, cellsOf_page, Bool.false_and]; rfl)]
        exact hK
      refine adraw_nil (by kernel_rfl) ?_
      refine AW.region (cfg := cfg4) ?_
      iterate 3 (apply aops_step (by decide) rfl; · (intro K hK; simp (disch := first | omega | decide) only [go_sem, f1, f2, f5, f6, f7, o2, o5, cc, cellsOf_page, Bool.false_and]; exact hK _))
      refine aops_nil ?_
      refine ⟨_, _, rfl, ?_, ?_, ?_, ?_, ?_, ?_, ?_, (by intro i; simp [Mem.set, hr]), (by exact hG)⟩ <;> try simp (disch := first | omega | decide) only [go_sem, f1, f2, f5, f6, f7, o2, o5, cc, cellsOf_page, Bool.false_and]
      all_goals first | rfl | (rw [splitP_succ]; simp [pageA, pageAt]; done)
    case hf =>
      intro hb
      try simp only [Bool.or_eq_true, Bool.and_eq_true, Bool.or_eq_false_iff, Bool.and_eq_false_iff, decide_eq_true_eq, decide_eq_false_iff_not] at hb
      have hbt24 := hb
      refine AW.skip ?_
      (have cc := ch_cut (b := b) (k := k) rfl)
      have hcl := chunk_len b k
      refine AW.draw (cfg := cfg4) (by kernel_rfl) (by kernel_rfl) (by kernel_rfl) ?_
      iterate 1 (apply adraw_step rfl; · (intro K hK; simp (disch := first | omega | decide) only [go_sem, f1, f2, f5, f6, f7, o2, o5, cc, cellsOf_page, Bool.false_and]; exact hK))
      apply adraw_step rfl
      · intro K hK
        simp (disch := first | omega | decide) only [go_sem, f1, f2, f5, f6, f7, o2, o5, cc, act_fieldAddr_t fo58_0, List.map, cellsOf_page, Bool.false_and]
        rw [mwp_fieldAddr_b (by simp (disch := first | omega | decide) only [go_sem, f1, f2, f5, f6, f7, o2, o5, cc, cellsOf_page, Bool.false_and]; rfl)]
        exact hK
      apply adraw_step rfl
      · intro K hK
        simp (disch := first | omega | decide) only [go_sem, f1, f2, f5, f6, f7, o2, o5, cc, act_load_t ti3, List.map, cellsOf_page, Bool.false_and]
        rw [mwp_load_b1 (by simp (disch := first | omega | decide) only [go_sem, f1, f2, f5, f6, f7, o2, o5, cc, cellsOf_page, Bool.false_and]; rfl) (by rfl)]
        exact hK
      apply adraw_step rfl
      · intro K hK
        simp (disch := first | omega | decide) only [go_sem, f1, f2, f5, f6, f7, o2, o5, cc, act_fieldAddr_t fo58_1, List.map, cellsOf_page, Bool.false_and]
        rw [mwp_fieldAddr_b (by simp (disch := first | omega | decide) only [go_sem, f1, f2, f5, f6, f7, o2, o5, cc, cellsOf_page, Bool.false_and]; rfl)]
        exact hK
      apply adraw_step rfl
      · intro K hK
        simp (disch := first | omega | decide) only [go_sem, f1, f2, f5, f6, f7, o2, o5, cc, act_load_t ti3, List.map, cellsOf_page, Bool.false_and]
        rw [mwp_load_b1 (by simp (disch := first | omega | decide) only [go_sem, f1, f2, f5, f6, f7, o2, o5, cc, cellsOf_page, Bool.false_and]; rfl) (by rfl)]
        exact hK
      apply adraw_step rfl
      · intro K hK
        simp (disch := first | omega | decide) only [go_sem, f1, f2, f5, f6, f7, o2, o5, cc, act_fieldAddr_t fo58_2, List.map, cellsOf_page, Bool.false_and]
        rw [mwp_fieldAddr_b (by simp (disch := first | omega | decide) only [go_sem, f1, f2, f5, f6, f7, o2, o5, cc, cellsOf_page, Bool.false_and]; rfl)]
        exact hK
      apply adraw_step rfl
      · intro K hK
        simp (disch := first | omega | decide) only [go_sem, f1, f2, f5, f6, f7, o2, o5, cc, act_load_t ti3, List.map, cellsOf_page, Bool.false_and]
        rw [mwp_load_b1 (by simp (disch := first | omega | decide) only [go_sem, f1, f2, f5, f6, f7, o2, o5, cc, cellsOf_page, Bool.false_and]; rfl) (by rfl)]
        exact hK
      apply adraw_step rfl
      · intro K hK
        simp (disch := first | omega | decide) only [go_sem, f1, f2, f5, f6, f7, o2, o5, cc, act_fieldAddr_t fo58_3, List.map, cellsOf_page, Bool.false_and]
        rw [mwp_fieldAddr_b (by simp (disch := first | omega | decide) only [go_sem, f1, f2, f5, f6, f7, o2, o5, cc, cellsOf_page, Bool.false_and]; rfl)]
        exact hK
      apply adraw_step rfl
      · intro K hK
        simp (disch := first | omega | decide) only [go_sem, f1, f2, f5, f6, f7, o2, o5, cc, act_load_t ti3, List.map, cellsOf_page, Bool.false_and]
        rw [mwp_load_b1 (by simp (disch := first | omega | decide) only [go_sem, f1, f2, f5, f6, f7, o2, o5, cc, cellsOf_page, Bool.false_and]; rfl) (by rfl)]
        exact hK
      iterate 4 (apply adraw_step rfl; · (intro K hK; simp (disch := first | omega | decide) only [go_sem, f1, f2, f5, f6, f7, o2, o5, cc, cellsOf_page, Bool.false_and]; exact hK))
      apply adraw_step rfl
      · intro K hK
        rw [act_bs el22 ti5]
        (simp [-List.map_take, -List.map_drop, -BitVec.toNat_ofInt, -BitVec.ofInt_natCast, -BitVec.toNat_setWidth, -BitVec.toNat_ushiftRight, -BitVec.toNat_umod, -BitVec.toNat_udiv, go_sem, elems_v, cellishAV, Value.oneCell', isAggAV, partsOf, TI.z, TI.mk1, f1, f2, f5, f6, f7, o2, o5, cc]; exact hK)
      iterate 5 (apply adraw_step rfl; · (intro K hK; simp (disch := first | omega | decide) only [go_sem, f1, f2, f5, f6, f7, o2, o5, cc, act_slice_s u22 ti5, cellsOf_page, Bool.false_and]; exact hK))
      apply adraw_step rfl
      · intro K hK
        simp (disch := first | omega | decide) only [go_sem, f1, f2, f5, f6, f7, o2, o5, cc, List.map, cellsOf_page, Bool.false_and]
        apply mwp_append2 el22 ti5 u22
        case hpk => intro Q hQ; exact hQ
        case hs' => rfl
        case ho => simp (disch := first | omega | decide) only [go_sem, f1, f2, f5, f6, f7, o2, o5, cc, cellsOf_page, Bool.false_and]; rfl
        case hsz => rfl
        case hhi => (simp [splitP_len]; done)
        case hb => (simp only [List.length_cons, List.length_nil, List.length_map, Nat.zero_add, Nat.reduceAdd, roomB]; omega)
        case hy => (simp [sub, cellsOf]; done)
        case k => (try simp only [List.nil_append, ← List.map_append, Bool.false_and]); exact hK
      apply adraw_step rfl
      · intro K hK
        simp (disch := first | omega | decide) only [go_sem, f1, f2, f5, f6, f7, o2, o5, cc, act_build_t ti58 pl58, List.map, cellsOf_page, Bool.false_and]
        simp [-List.map_take, -List.map_drop, fillL, okOne, cellishAV, Value.oneCell', cellsL, cellsOf, setAt, M.bind, Mwp, mset_same, Obj.isArr, o2, o5]
        exact hK
      apply adraw_step rfl
      · intro K hK
        rw [act_bs el91 ti58]
        (simp (disch := first | omega | decide) only [go_sem, f1, f2, f5, f6, f7, o2, o5, cc, List.map, elems_cons, cellsOf_page, Bool.false_and]; rw [if_pos (by decide)]; simp (disch := first | omega | decide) only [go_sem, f1, f2, f5, f6, f7, o2, o5, cc, List.map, elems_cons, cellsOf_page, Bool.false_and]; rw [mwp_reify_agg]; (repeat (first | rw [mwp_reifyL_v] | rw [mwp_reifyL_arr (by simp (disch := first | omega | decide) only [go_sem, f1, f2, f5, f6, f7, o2, o5, cc, List.map, elems_cons, cellsOf_page, Bool.false_and]; rfl)])); rw [mwp_reifyL_nil]; (repeat (rw [sub_full (by (simp [splitP_len]; done))])); simp [-List.map_take, -List.map_drop, -BitVec.toNat_ofInt, go_sem, cellishAV, Value.oneCell', isAggAV, partsOf, TI.z, TI.mk1, mwp_if, cellsOf]; exact hK)
      apply adraw_step rfl
      · intro K hK
        simp (disch := first | omega | decide) only [go_sem, f1, f2, f5, f6, f7, o2, o5, cc, List.map, cellsOf_page, Bool.false_and]
        apply mwp_append2 el91 ti58 u91
        case hpk => intro Q hQ; (rw [peek_own (by simp (disch := first | omega | decide) only [go_sem, f1, f2, f5, f6, f7, o2, o5, cc, cellsOf_page, Bool.false_and]; rfl)]; (try rw [sub_full (by rfl)]); exact hQ)
        case hs' => rfl
        case ho => simp (disch := first | omega | decide) only [go_sem, f1, f2, f5, f6, f7, o2, o5, cc, cellsOf_page, Bool.false_and]; rfl
        case hsz => rfl
        case hhi => (simp [splitP_len]; done)
        case hb => (simp only [List.length_cons, List.length_nil, List.length_map, Nat.zero_add, Nat.reduceAdd, roomB]; omega)
        case hy => exact all_cells rfl
        case k => (try simp only [List.nil_append, ← List.map_append, Bool.false_and]); exact hK
      apply adraw_step rfl
      · intro K hK
        simp (disch := first | omega | decide) only [go_sem, f1, f2, f5, f6, f7, o2, o5, cc, cellsOf_page, Bool.false_and]
        rw [asg_tmp (by simp (disch := first | omega | decide) only [go_sem, f1, f2, f5, f6, f7, o2, o5, cc, cellsOf_page, Bool.false_and]; rfl)]
        exact hK
      refine adraw_nil (by kernel_rfl) ?_
      refine AW.region (cfg := cfg4) ?_
      iterate 3 (apply aops_step (by decide) rfl; · (intro K hK; simp (disch := first | omega | decide) only [go_sem, f1, f2, f5, f6, f7, o2, o5, cc, cellsOf_page, Bool.false_and]; exact hK _))
      refine aops_nil ?_
      refine ⟨_, _, rfl, ?_, ?_, ?_, ?_, ?_, ?_, ?_, (by intro i; simp [Mem.set, hr]), (by exact hG)⟩ <;> try simp (disch := first | omega | decide) only [go_sem, f1, f2, f5, f6, f7, o2, o5, cc, cellsOf_page, Bool.false_and]
      all_goals first | rfl | (rw [splitP_succ]; simp [pageA, pageAt]; done)
  · clear f0 f1 hr hG
    rintro σ ⟨s, m, rfl, f1, f2, o2, f5, o5, f6, f7, hr, hG⟩
    obtain ⟨g2, o2⟩ : ∃ g, m.objs (.tmp 2 0) = (g, .box [.v (i64 p.kind), .v (i64 p.gen), .v (i64 p.mark), .v (i64 p.idx), .v (i64 p.part), .v (i64 p.parts), .v (.sl 1 p.nil (bsl p.b))]) := ⟨_, Prod.ext rfl o2⟩
    rw [o2] at f2
    obtain ⟨g5, o5⟩ : ∃ g, m.objs (.var 5) = (g, .arr false 7 ((splitP p false b (parts (b.length : Int)).toNat).map pageA)) := ⟨_, Prod.ext rfl o5⟩
    rw [o5] at f5
    refine AW.seq ?_
    refine AW.seq ?_
    refine AW.region (cfg := cfg4) ?_
    iterate 3 (apply aops_step (by decide) rfl; · (intro K hK; simp (disch := first | omega | decide) only [go_sem, f1, f2, f5, f6, f7, o2, o5, cellsOf_page, Bool.false_and]; exact hK _))
    refine aops_nil ?_
    apply AW.cond
    · simp (disch := first | omega | decide) only [go_sem, f1, f2, f5, f6, f7, o2, o5, cellsOf_page, Bool.false_and]; rfl
    case ht => intro hb; (simp at hb; omega)
    case hf =>
    intro hb
    have hbt15 := hb
    refine AW.exit ?_
    refine AW.seq ?_
    refine AW.region (cfg := cfg4) ?_
    iterate 1 (apply aops_step (by decide) rfl; · (intro K hK; simp (disch := first | omega | decide) only [go_sem, f1, f2, f5, f6, f7, o2, o5, cellsOf_page, Bool.false_and]; exact hK _))
    apply aops_step (by decide) rfl
    · intro K hK
      simp (disch := first | omega | decide) only [go_sem, f1, f2, f5, f6, f7, o2, o5, cellsOf_page, Bool.false_and]
      rw [asg_mv (by rfl) (by decide) (by simp (disch := first | omega | decide) only [go_sem, f1, f2, f5, f6, f7, o2, o5, cellsOf_page, Bool.false_and] <;> rfl)]
      exact hK _
    refine aops_nil ?_
    refine AW.ret ?_
    refine ⟨.inr rfl, ?_⟩
    refine leaves_frz1 4 rfl (by simp (disch := first | omega | decide) only [go_sem, f1, f2, f5, f6, f7, o2, o5, cellsOf_page, Bool.false_and] <;> rfl) (by simp (disch := first | omega | decide) only [go_sem, f1, f2, f5, f6, f7, o2, o5, cellsOf_page, Bool.false_and] <;> rfl) (by rw [sub_full (by simp [splitP_len])]) (by exact hG)

end Go.Vai.R
