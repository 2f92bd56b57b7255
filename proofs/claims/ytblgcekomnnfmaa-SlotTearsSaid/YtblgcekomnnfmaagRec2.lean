import Derived.Test.YtblgcekomnnfmaagRec
namespace Go.Vai.R
open Go.Proofs Go.Vai Go.Vai.G Go.Vai.L Go.Vai.O Go.Vai.U Go.Vai.Z
set_option linter.unusedSimpArgs false
set_option linter.unusedVariables false

theorem cut_nil {nil : Bool} {b : List (BitVec 8)} (hz : nil = true → b = []) (k m : Nat) : nil = true → (b.drop k).take m = [] := fun h => by rw [hz h]; simp
theorem idx_out {p : Page} {b : List (BitVec 8)} {n : Int} (h : p.idx < 0 ∨ p.idx > 2147483648) : pageOK (pageAt p false b n 0) = false := by
  cases e : pageOK (pageAt p false b n 0) with
  | false => rfl
  | true =>
    have := (page_bd e).2.2.2.1
    have h2 : (pageAt p false b n 0).idx = p.idx + ((0 : Nat) : Int) := rfl
    omega
theorem idx_in {p : Page} {b : List (BitVec 8)} {n k : Int} {nil : Bool} {c : List (BitVec 8)} (h : pageOK ⟨p.kind, p.gen, p.mark, p.idx, k, n, nil, c⟩ = true) : 0 ≤ p.idx ∧ p.idx ≤ 2147483648 := (page_bd h).2.2.2.1
theorem flag_end {n : Int} (h : ¬ n = 0) (h2 : 0 ≤ n) : decide (n.toNat = 0) = false := decide_eq_false (by omega)
set_option maxHeartbeats 4000000 in
set_option maxRecDepth 100000 in
theorem good_Split (p : Page) (hp : p.b.length ≤ 9223372036854775807) (nil : Bool) (b : List (BitVec 8)) (hb0 : b.length ≤ 140737488350000) (hz : nil = true → b = []) : Good Try.prog 46 [(pageA p, false), (.sl 1 nil (bsl b), false)] [] [(.sl 7 (!splitOK p b) ((splitL p nil b).map pageA), true), (i64 (splitE p b), false)] [] := by
  refine good_of_body3 63 Try.func46 rfl rfl rfl (by simp) ?_
  intro s m ha hr hv hG
  have f0 : s 0 = .v (.agg [i64 p.kind, i64 p.gen, i64 p.mark, i64 p.idx, i64 p.part, i64 p.parts, .sl 1 p.nil (bsl p.b)]) := ha 0 _ rfl
  have f1 : s 1 = .v (.sl 1 nil (bsl b)) := ha 1 _ rfl
  clear ha
  refine AW.seq ?_
  refine AW.region (cfg := cfg4) ?_
  apply aops_step (by decide) rfl
  · intro K hK
    simp (disch := first | omega | decide) only [go_sem, f0, f1, act_box_t ti58, List.map, cellsOf_page]
    rw [settleL_vish _ _ (by rfl)]
    simp (disch := first | omega | decide) only [go_sem, f0, f1, cellsL, List.map, List.length_cons, List.length_nil, Nat.reduceAdd, if_true, cellsOf_page]
    exact hK _
  iterate 2 (apply aops_step (by decide) rfl; · (intro K hK; simp (disch := first | omega | decide) only [go_sem, f0, f1, sz91, cellsOf_page]; exact hK _))
  refine aops_nil ?_
  refine AW.seq ?_
  refine AW.region (cfg := cfg4) ?_
  iterate 2 (apply aops_step (by decide) rfl; · (intro K hK; simp (disch := first | omega | decide) only [go_sem, f0, f1, List.map, List.length_map, aops_len u22, cellsOf_page]; exact hK _))
  apply aops_step (by decide) rfl
  · intro K hK
    simp (disch := first | omega | decide) only [go_sem, f0, f1, act_call, List.map, cellsOf_page]
    apply mwp_call_s rfl rfl rfl
    · intro Q hQ
      (simp (disch := first | omega | decide) only [go_sem, f0, f1, peekL, reifyL_nil, reifyL_cons, reify_v, cellsOf_page]; (exact hQ))
    · exact good_Parts _ (by omega)
    · simp [-List.map_take, -List.map_drop, -List.map_append, -List.map_replicate, -List.reduceReplicate, noPtrL, noPtr, noPtrL_bsl, noPtrL_map, sub]
    · rfl
    · exact hK _
  iterate 1 (apply aops_step (by decide) rfl; · (intro K hK; simp (disch := first | omega | decide) only [go_sem, f0, f1, cellsOf_page]; exact hK _))
  refine aops_nil ?_
  refine AW.seq ?_
  refine AW.seq ?_
  refine AW.region (cfg := cfg4) ?_
  iterate 2 (apply aops_step (by decide) rfl; · (intro K hK; simp (disch := first | omega | decide) only [go_sem, f0, f1, cellsOf_page]; exact hK _))
  refine aops_nil ?_
  apply AW.cond
  · simp (disch := first | omega | decide) only [go_sem, f0, f1, cellsOf_page]; rfl
  case ht =>
    intro hb
    try simp only [Bool.or_eq_true, Bool.and_eq_true, Bool.or_eq_false_iff, Bool.and_eq_false_iff, decide_eq_true_eq, decide_eq_false_iff_not] at hb
    have hbt15 := hb
    refine AW.seq ?_
    refine AW.region (cfg := cfg4) ?_
    iterate 2 (apply aops_step (by decide) rfl; · (intro K hK; simp (disch := first | omega | decide) only [go_sem, f0, f1, sz91, cellsOf_page]; exact hK _))
    refine aops_nil ?_
    refine AW.ret ?_
    refine ⟨.inr rfl, ?_⟩
    all_goals (have zz : parts (b.length : Int) = 0 := hbt15; obtain ⟨e1, e2, e3⟩ := split_no0 (p := p) (nil := nil) (b := b) zz; rw [e1, e2, e3]; refine leavesN (leaves_own2 4 5 rfl (by simp (disch := first | omega | decide) only [go_sem, f0, f1, cellsOf_page] <;> rfl) (by simp (disch := first | omega | decide) only [go_sem, f0, f1, cellsOf_page] <;> rfl) (by simp (disch := first | omega | decide) only [go_sem, f0, f1, cellsOf_page] <;> rfl) (by decide) (by simp [sub]) (by exact hG)))
  case hf =>
    intro hb
    try simp only [Bool.or_eq_true, Bool.and_eq_true, Bool.or_eq_false_iff, Bool.and_eq_false_iff, decide_eq_true_eq, decide_eq_false_iff_not] at hb
    have hbt15 := hb
    refine AW.skip ?_
    refine AW.seq ?_
    refine AW.region (cfg := cfg4) ?_
    iterate 1 (apply aops_step (by decide) rfl; · (intro K hK; simp (disch := first | omega | decide) only [go_sem, f0, f1, sz91, cellsOf_page]; exact hK _))
    refine aops_nil ?_
    refine AW.seq ?_
    refine AW.seq ?_
    refine AW.region (cfg := cfg4) ?_
    iterate 2 (apply aops_step (by decide) rfl; · (intro K hK; simp (disch := first | omega | decide) only [go_sem, f0, f1, cellsOf_page]; exact hK _))
    refine aops_nil ?_
    refine AW.block ?_
    refine AW.forN (fun k σ => ∃ s m, σ = ⟨63, s, m⟩ ∧ s 1 = .v (.sl 1 nil (bsl (b.drop (488 * k)))) ∧ s 2 = .lptr (.tmp 2 0) (m.objs (.tmp 2 0)).1 0 ∧ (m.objs (.tmp 2 0)).2 = .box [.v (i64 p.kind), .v (i64 p.gen), .v (i64 p.mark), .v (i64 p.idx), .v (i64 p.part), .v (i64 p.parts), .v (.sl 1 p.nil (bsl p.b))] ∧ s 6 = .v (i64 (parts (b.length : Int))) ∧ s 7 = .own (.var 7) (m.objs (.var 7)).1 0 (k) ∧ (m.objs (.var 7)).2 = .arr (decide (k = 0)) 7 ((splitP p nil b k).map pageA) ∧ s 16 = .v (i64 (parts (b.length : Int))) ∧ s 17 = .v (i64 (k : Int)) ∧ (k = 0 ∨ (0 ≤ p.idx ∧ p.idx ≤ 2147483648)) ∧ (allPages (splitP p false b k) = true) ∧ (∀ i, (m.objs (.res i)).2 = .dead) ∧ m.G = []) ((parts (b.length : Int)).toNat) ?_ ?_ ?_
    · refine ⟨_, _, rfl, ?_, ?_, ?_, ?_, ?_, ?_, ?_, ?_, ?_, ?_, (by intro i; simp [Mem.set, hr]), (by exact hG)⟩ <;> try simp (disch := first | omega | decide) only [go_sem, f0, f1, cellsOf_page]
      all_goals first | rfl | (simp [splitP]; done)
    · clear f0 f1 hr hG
      rintro k σ hk ⟨s, m, rfl, f1, f2, o2, f6, f7, o7, f16, f17, mo0, mo1, hr, hG⟩
      obtain ⟨g2, o2⟩ : ∃ g, m.objs (.tmp 2 0) = (g, .box [.v (i64 p.kind), .v (i64 p.gen), .v (i64 p.mark), .v (i64 p.idx), .v (i64 p.part), .v (i64 p.parts), .v (.sl 1 p.nil (bsl p.b))]) := ⟨_, Prod.ext rfl o2⟩
      rw [o2] at f2
      obtain ⟨g7, o7⟩ : ∃ g, m.objs (.var 7) = (g, .arr (decide (k = 0)) 7 ((splitP p nil b k).map pageA)) := ⟨_, Prod.ext rfl o7⟩
      rw [o7] at f7
      refine AW.seq ?_
      refine AW.region (cfg := cfg4) ?_
      iterate 1 (apply aops_step (by decide) rfl; · (intro K hK; simp (disch := first | omega | decide) only [go_sem, f1, f2, f6, f7, f16, f17, o2, o7, cellsOf_page]; exact hK _))
      refine aops_nil ?_
      refine AW.seq ?_
      apply AW.cond
      · simp (disch := first | omega | decide) only [go_sem, f1, f2, f6, f7, f16, f17, o2, o7, cellsOf_page]; rfl
      case hf => intro hb; (simp at hb; omega)
      case ht =>
      intro hb
      have hbt18 := hb
      refine AW.skip ?_
      refine AW.seq ?_
      refine AW.block ?_
      refine AW.seq ?_
      have hp16 := parts_is (n := (b.length : Int)) (fun hc => by rw [parts_no hc] at hbt15; exact hbt15 rfl)
      have ck := chunk_is (b := b) (k := k)
      have cn := chunk_next (b := b) (k := k)
      have hcz := cut_nil hz (488 * k) 488
      refine AW.region (cfg := cfg4) ?_
      iterate 2 (apply aops_step (by decide) rfl; · (intro K hK; simp (disch := first | omega | decide) only [go_sem, f1, f2, f6, f7, f16, f17, o2, o7, ck, cn, cellsOf_page]; exact hK _))
      refine aops_nil ?_
      refine AW.seq ?_
      refine AW.region (cfg := cfg4) ?_
      iterate 4 (apply aops_step (by decide) rfl; · (intro K hK; simp (disch := first | omega | decide) only [go_sem, f1, f2, f6, f7, f16, f17, o2, o7, ck, cn, List.map, List.length_map, aops_len u22, cellsOf_page]; exact hK _))
      refine aops_nil ?_
      refine AW.seq ?_
      refine AW.draw (cfg := cfg4) (by kernel_rfl) (by kernel_rfl) (by kernel_rfl) ?_
      apply adraw_step rfl
      · intro K hK
        simp (disch := first | omega | decide) only [go_sem, f1, f2, f6, f7, f16, f17, o2, o7, ck, cn, act_fieldAddr_t fo58_0, List.map, cellsOf_page]
        rw [mwp_fieldAddr_b (by simp (disch := first | omega | decide) only [go_sem, f1, f2, f6, f7, f16, f17, o2, o7, ck, cn, cellsOf_page]; rfl)]
        exact hK
      apply adraw_step rfl
      · intro K hK
        simp (disch := first | omega | decide) only [go_sem, f1, f2, f6, f7, f16, f17, o2, o7, ck, cn, act_load_t ti3, List.map, cellsOf_page]
        rw [mwp_load_b1 (by simp (disch := first | omega | decide) only [go_sem, f1, f2, f6, f7, f16, f17, o2, o7, ck, cn, cellsOf_page]; rfl) (by rfl)]
        exact hK
      apply adraw_step rfl
      · intro K hK
        simp (disch := first | omega | decide) only [go_sem, f1, f2, f6, f7, f16, f17, o2, o7, ck, cn, act_fieldAddr_t fo58_1, List.map, cellsOf_page]
        rw [mwp_fieldAddr_b (by simp (disch := first | omega | decide) only [go_sem, f1, f2, f6, f7, f16, f17, o2, o7, ck, cn, cellsOf_page]; rfl)]
        exact hK
      apply adraw_step rfl
      · intro K hK
        simp (disch := first | omega | decide) only [go_sem, f1, f2, f6, f7, f16, f17, o2, o7, ck, cn, act_load_t ti3, List.map, cellsOf_page]
        rw [mwp_load_b1 (by simp (disch := first | omega | decide) only [go_sem, f1, f2, f6, f7, f16, f17, o2, o7, ck, cn, cellsOf_page]; rfl) (by rfl)]
        exact hK
      apply adraw_step rfl
      · intro K hK
        simp (disch := first | omega | decide) only [go_sem, f1, f2, f6, f7, f16, f17, o2, o7, ck, cn, act_fieldAddr_t fo58_2, List.map, cellsOf_page]
        rw [mwp_fieldAddr_b (by simp (disch := first | omega | decide) only [go_sem, f1, f2, f6, f7, f16, f17, o2, o7, ck, cn, cellsOf_page]; rfl)]
        exact hK
      apply adraw_step rfl
      · intro K hK
        simp (disch := first | omega | decide) only [go_sem, f1, f2, f6, f7, f16, f17, o2, o7, ck, cn, act_load_t ti3, List.map, cellsOf_page]
        rw [mwp_load_b1 (by simp (disch := first | omega | decide) only [go_sem, f1, f2, f6, f7, f16, f17, o2, o7, ck, cn, cellsOf_page]; rfl) (by rfl)]
        exact hK
      apply adraw_step rfl
      · intro K hK
        simp (disch := first | omega | decide) only [go_sem, f1, f2, f6, f7, f16, f17, o2, o7, ck, cn, act_fieldAddr_t fo58_3, List.map, cellsOf_page]
        rw [mwp_fieldAddr_b (by simp (disch := first | omega | decide) only [go_sem, f1, f2, f6, f7, f16, f17, o2, o7, ck, cn, cellsOf_page]; rfl)]
        exact hK
      apply adraw_step rfl
      · intro K hK
        simp (disch := first | omega | decide) only [go_sem, f1, f2, f6, f7, f16, f17, o2, o7, ck, cn, act_load_t ti3, List.map, cellsOf_page]
        rw [mwp_load_b1 (by simp (disch := first | omega | decide) only [go_sem, f1, f2, f6, f7, f16, f17, o2, o7, ck, cn, cellsOf_page]; rfl) (by rfl)]
        exact hK
      iterate 5 (apply adraw_step rfl; · (intro K hK; simp (disch := first | omega | decide) only [go_sem, f1, f2, f6, f7, f16, f17, o2, o7, ck, cn, act_slice_s u22 ti5, cellsOf_page]; exact hK))
      apply adraw_step rfl
      · intro K hK
        simp (disch := first | omega | decide) only [go_sem, f1, f2, f6, f7, f16, f17, o2, o7, ck, cn, act_call, List.map, cellsOf_page]
        apply mwp_call_r rfl rfl rfl
        · intro Q hQ
          (simp (disch := first | omega | decide) only [go_sem, f1, f2, f6, f7, f16, f17, o2, o7, ck, cn, peekL, reifyL_nil, reifyL_cons, reify_v, cellsOf_page]; (exact hQ))
        · exact (O.good_Clone nil (chunk b k) (by simp [chunk]; omega) hcz).lend1
        · simp [-List.map_take, -List.map_drop, -List.map_append, -List.map_replicate, -List.reduceReplicate, noPtrL, noPtr, noPtrL_bsl, noPtrL_map, sub]
        · simp (disch := first | omega | decide) only [go_sem, f1, f2, f6, f7, f16, f17, o2, o7, ck, cn, cellsOf_page]
          exact hK
      apply adraw_step rfl
      · intro K hK
        simp (disch := first | omega | decide) only [go_sem, f1, f2, f6, f7, f16, f17, o2, o7, ck, cn, act_build_t ti58 pl58, List.map, cellsOf_page]
        simp [-List.map_take, -List.map_drop, fillL, okOne, cellishAV, Value.oneCell', cellsL, cellsOf, setAt, M.bind, Mwp, mset_same, Obj.isArr, o2, o7]
        exact hK
      apply adraw_step rfl
      · intro K hK
        simp (disch := first | omega | decide) only [go_sem, f1, f2, f6, f7, f16, f17, o2, o7, ck, cn, act_alloc_t ti58, List.map, cellsOf_page]
        exact hK
      apply adraw_step0 rfl
      · intro K hK
        simp (disch := first | omega | decide) only [go_sem, f1, f2, f6, f7, f16, f17, o2, o7, ck, cn, act_store_t ti58, List.map, cellsOf_page]
        rw [mwp_store_c (by simp (disch := first | omega | decide) only [go_sem, f1, f2, f6, f7, f16, f17, o2, o7, ck, cn, cellsOf_page]; rfl) (by rfl) (by rfl) (by rfl) (by simp)]
        try simp only [setAt, cellsL, cellsOf_agg, cellsOf_base, List.map_cons, List.map_nil, List.set_cons_zero, List.set_cons_succ, Nat.reduceAdd, Nat.zero_add, hG]
        exact hK
      refine adraw_nil (by kernel_rfl) ?_
      refine AW.seq ?_
      refine AW.seq ?_
      refine AW.region (cfg := cfg4) ?_
      apply aops_step (by decide) rfl
      · intro K hK
        simp (disch := first | omega | decide) only [go_sem, f1, f2, f6, f7, f16, f17, o2, o7, ck, cn, act_fieldAddr_t fo58_3, List.map, cellsOf_page]
        rw [mwp_fieldAddr_b (by simp (disch := first | omega | decide) only [go_sem, f1, f2, f6, f7, f16, f17, o2, o7, ck, cn, cellsOf_page]; rfl)]
        exact hK _
      apply aops_step (by decide) rfl
      · intro K hK
        simp (disch := first | omega | decide) only [go_sem, f1, f2, f6, f7, f16, f17, o2, o7, ck, cn, act_load_t ti3, List.map, cellsOf_page]
        rw [mwp_load_b1 (by simp (disch := first | omega | decide) only [go_sem, f1, f2, f6, f7, f16, f17, o2, o7, ck, cn, cellsOf_page]; rfl) (by rfl)]
        exact hK _
      iterate 2 (apply aops_step (by decide) rfl; · (intro K hK; simp (disch := first | omega | decide) only [go_sem, f1, f2, f6, f7, f16, f17, o2, o7, ck, cn, cellsOf_page]; exact hK _))
      apply aops_merge' (by decide) (by exact want_of (d := 41) rfl (by simp (disch := first | omega | decide) only [go_sem, f1, f2, f6, f7, f16, f17, o2, o7, ck, cn, opn_cond, cellsOf_page]; rfl))
      · intro hc K hK
        have hc2 := hc
        simp only [beq_iff_eq, decide_eq_true_eq, decide_eq_false_iff_not, Bool.or_eq_true, Bool.and_eq_true, Bool.or_eq_false_iff, Bool.and_eq_false_iff] at hc2
        simp (disch := first | omega | decide) only [go_sem, f1, f2, f6, f7, f16, f17, o2, o7, ck, cn, opn_cond, hc, if_true, act_fieldAddr_t fo58_3, cellsOf_page]
        rw [mwp_fieldAddr_b (by simp (disch := first | omega | decide) only [go_sem, f1, f2, f6, f7, f16, f17, o2, o7, ck, cn, opn_cond, hc, if_true, cellsOf_page]; rfl)]
        exact hK _
      apply aops_merge' (by decide) (by exact want_of (d := 41) rfl (by simp (disch := first | omega | decide) only [go_sem, f1, f2, f6, f7, f16, f17, o2, o7, ck, cn, opn_cond, cellsOf_page]; rfl))
      · intro hc K hK
        have hc2 := hc
        simp only [beq_iff_eq, decide_eq_true_eq, decide_eq_false_iff_not, Bool.or_eq_true, Bool.and_eq_true, Bool.or_eq_false_iff, Bool.and_eq_false_iff] at hc2
        simp (disch := first | omega | decide) only [go_sem, f1, f2, f6, f7, f16, f17, o2, o7, ck, cn, opn_cond, hc, if_true, act_load_t ti3, cellsOf_page]
        rw [mwp_load_b1 (by simp (disch := first | omega | decide) only [go_sem, f1, f2, f6, f7, f16, f17, o2, o7, ck, cn, opn_cond, hc, if_true, cellsOf_page]; rfl) (by rfl)]
        exact hK _
      apply aops_merge' (by decide) (by exact want_of (d := 41) rfl (by simp (disch := first | omega | decide) only [go_sem, f1, f2, f6, f7, f16, f17, o2, o7, ck, cn, opn_cond, cellsOf_page]; rfl))
      · intro hc K hK
        have hc2 := hc
        simp only [beq_iff_eq, decide_eq_true_eq, decide_eq_false_iff_not, Bool.or_eq_true, Bool.and_eq_true, Bool.or_eq_false_iff, Bool.and_eq_false_iff] at hc2
        simp (disch := first | omega | decide) only [go_sem, f1, f2, f6, f7, f16, f17, o2, o7, ck, cn, opn_cond, hc, if_true, cellsOf_page]
        exact hK _
      iterate 1 (apply aops_step (by decide) rfl; · (intro K hK; simp (disch := first | omega | decide) only [go_sem, f1, f2, f6, f7, f16, f17, o2, o7, ck, cn, cellsOf_page]; exact hK _))
      refine aops_nil ?_
      apply AW.cond
      · simp (disch := first | omega | decide) only [go_sem, f1, f2, f6, f7, f16, f17, o2, o7, ck, cn, cellsOf_page]; rfl
      case ht =>
        intro hb
        try simp only [Bool.or_eq_true, Bool.and_eq_true, Bool.or_eq_false_iff, Bool.and_eq_false_iff, decide_eq_true_eq, decide_eq_false_iff_not] at hb
        have hbt45 := hb
        refine AW.region (cfg := cfg4) ?_
        apply aops_step (by decide) rfl
        · intro K hK
          simp (disch := first | omega | decide) only [go_sem, f1, f2, f6, f7, f16, f17, o2, o7, ck, cn, act_fieldAddr_t fo58_3, List.map, cellsOf_page]
          rw [mwp_fieldAddr_b (by simp (disch := first | omega | decide) only [go_sem, f1, f2, f6, f7, f16, f17, o2, o7, ck, cn, cellsOf_page]; rfl)]
          exact hK _
        apply aops_step (by decide) rfl
        · intro K hK
          simp (disch := first | omega | decide) only [go_sem, f1, f2, f6, f7, f16, f17, o2, o7, ck, cn, act_load_t ti3, List.map, cellsOf_page]
          rw [mwp_load_b1 (by simp (disch := first | omega | decide) only [go_sem, f1, f2, f6, f7, f16, f17, o2, o7, ck, cn, cellsOf_page]; rfl) (by rfl)]
          exact hK _
        iterate 2 (apply aops_step (by decide) rfl; · (intro K hK; simp (disch := first | omega | decide) only [go_sem, f1, f2, f6, f7, f16, f17, o2, o7, ck, cn, cellsOf_page]; exact hK _))
        apply aops_step (by decide) rfl
        · intro K hK
          simp (disch := first | omega | decide) only [go_sem, f1, f2, f6, f7, f16, f17, o2, o7, ck, cn, act_fieldAddr_t fo58_3, List.map, cellsOf_page]
          rw [mwp_fieldAddr_b (by simp (disch := first | omega | decide) only [go_sem, f1, f2, f6, f7, f16, f17, o2, o7, ck, cn, cellsOf_page]; rfl)]
          exact hK _
        apply aops_step0 rfl
        · intro K hK
          simp (disch := first | omega | decide) only [go_sem, f1, f2, f6, f7, f16, f17, o2, o7, ck, cn, act_store_t ti3, List.map, cellsOf_page]
          rw [mwp_store_c (by simp (disch := first | omega | decide) only [go_sem, f1, f2, f6, f7, f16, f17, o2, o7, ck, cn, cellsOf_page]; rfl) (by rfl) (by rfl) (by rfl) (by simp)]
          try simp only [setAt, cellsL, cellsOf_agg, cellsOf_base, List.map_cons, List.map_nil, List.set_cons_zero, List.set_cons_succ, Nat.reduceAdd, Nat.zero_add, hG]
          exact hK _
        refine aops_nil ?_
        refine AW.seq ?_
        refine AW.seq ?_
        refine AW.region (cfg := cfg4) ?_
        apply aops_step (by decide) rfl
        · intro K hK
          simp (disch := first | omega | decide) only [go_sem, f1, f2, f6, f7, f16, f17, o2, o7, ck, cn, act_load_t ti58, List.map, cellsOf_page]
          rw [mwp_load_bs (by simp (disch := first | omega | decide) only [go_sem, f1, f2, f6, f7, f16, f17, o2, o7, ck, cn, cellsOf_page]; rfl) (by simp [setAt])]
          exact hK _
        apply aops_step (by decide) rfl
        · intro K hK
          simp (disch := first | omega | decide) only [go_sem, f1, f2, f6, f7, f16, f17, o2, o7, ck, cn, act_call, List.map, cellsOf_page]
          apply mwp_call_s rfl rfl rfl
          · intro Q hQ
            (simp (disch := first | omega | decide) only [go_sem, f1, f2, f6, f7, f16, f17, o2, o7, ck, cn, peekL, reifyL_nil, reifyL_cons, reify_v, cellsOf_page]; (exact hQ))
          · exact (by exact good_right (pageAt p nil b (parts (b.length : Int)) k) (by (show (chunk b k).length ≤ _; simp [chunk]; omega)))
          · simp [-List.map_take, -List.map_drop, -List.map_append, -List.map_replicate, -List.reduceReplicate, noPtrL, noPtr, noPtrL_bsl, noPtrL_map, sub]
          · rfl
          · exact hK _
        iterate 1 (apply aops_step (by decide) rfl; · (intro K hK; simp (disch := first | omega | decide) only [go_sem, f1, f2, f6, f7, f16, f17, o2, o7, ck, cn, cellsOf_page]; exact hK _))
        refine aops_nil ?_
        apply AW.cond
        · simp (disch := first | omega | decide) only [go_sem, f1, f2, f6, f7, f16, f17, o2, o7, ck, cn, cellsOf_page]; rfl
        case ht =>
          intro hb
          try simp only [Bool.or_eq_true, Bool.and_eq_true, Bool.or_eq_false_iff, Bool.and_eq_false_iff, decide_eq_true_eq, decide_eq_false_iff_not] at hb
          have hbt53 := hb
          refine AW.seq ?_
          refine AW.region (cfg := cfg4) ?_
          iterate 2 (apply aops_step (by decide) rfl; · (intro K hK; simp (disch := first | omega | decide) only [go_sem, f1, f2, f6, f7, f16, f17, o2, o7, ck, cn, sz91, cellsOf_page]; exact hK _))
          refine aops_nil ?_
          refine AW.ret ?_
          refine ⟨.inr rfl, ?_⟩
          all_goals (have zz : pageOK (pageAt p false b (parts (b.length : Int)) k) = false := (by simpa [okAt_nil] using hbt53); obtain ⟨e1, e2, e3⟩ := split_no1 (p := p) (nil := nil) (b := b) hbt15 hk zz; rw [e1, e2, e3]; refine leavesN (leaves_own2 4 5 rfl (by simp (disch := first | omega | decide) only [go_sem, f1, f2, f6, f7, f16, f17, o2, o7, ck, cn, cellsOf_page] <;> rfl) (by simp (disch := first | omega | decide) only [go_sem, f1, f2, f6, f7, f16, f17, o2, o7, ck, cn, cellsOf_page] <;> rfl) (by simp (disch := first | omega | decide) only [go_sem, f1, f2, f6, f7, f16, f17, o2, o7, ck, cn, cellsOf_page] <;> rfl) (by decide) (by simp [sub]) (by exact hG)))
        case hf =>
          intro hb
          try simp only [Bool.or_eq_true, Bool.and_eq_true, Bool.or_eq_false_iff, Bool.and_eq_false_iff, decide_eq_true_eq, decide_eq_false_iff_not] at hb
          have hbt53 := hb
          refine AW.skip ?_
          refine AW.draw (cfg := cfg4) (by kernel_rfl) (by kernel_rfl) (by kernel_rfl) ?_
          iterate 1 (apply adraw_step rfl; · (intro K hK; simp (disch := first | omega | decide) only [go_sem, f1, f2, f6, f7, f16, f17, o2, o7, ck, cn, cellsOf_page]; exact hK))
          apply adraw_step rfl
          · intro K hK
            simp (disch := first | omega | decide) only [go_sem, f1, f2, f6, f7, f16, f17, o2, o7, ck, cn, act_load_t ti58, List.map, cellsOf_page]
            rw [mwp_load_bs (by simp (disch := first | omega | decide) only [go_sem, f1, f2, f6, f7, f16, f17, o2, o7, ck, cn, cellsOf_page]; rfl) (by simp [setAt])]
            exact hK
          apply adraw_step rfl
          · intro K hK
            rw [act_bs el91 ti58]
            (simp [-List.map_take, -List.map_drop, -BitVec.toNat_ofInt, -BitVec.ofInt_natCast, -BitVec.toNat_setWidth, -BitVec.toNat_ushiftRight, -BitVec.toNat_umod, -BitVec.toNat_udiv, go_sem, elems_v, cellishAV, Value.oneCell', isAggAV, partsOf, TI.z, TI.mk1, f1, f2, f6, f7, f16, f17, o2, o7, ck, cn]; exact hK)
          apply adraw_step rfl
          · intro K hK
            simp (disch := first | omega | decide) only [go_sem, f1, f2, f6, f7, f16, f17, o2, o7, ck, cn, List.map, cellsOf_page]
            apply mwp_append2 el91 ti58 u91
            case hpk => intro Q hQ; (rw [peek_own (by simp (disch := first | omega | decide) only [go_sem, f1, f2, f6, f7, f16, f17, o2, o7, ck, cn, cellsOf_page]; rfl)]; (try rw [sub_full (by rfl)]); exact hQ)
            case hs' => rfl
            case ho => simp (disch := first | omega | decide) only [go_sem, f1, f2, f6, f7, f16, f17, o2, o7, ck, cn, cellsOf_page]; rfl
            case hsz => rfl
            case hhi => (simp [splitP_len]; done)
            case hb => (simp [sub, roomB, splitP_len]; omega)
            case hy => exact all_cells rfl
            case k => (try simp only [List.nil_append, ← List.map_append, Bool.false_and]); exact hK
          iterate 3 (apply adraw_step rfl; · (intro K hK; simp (disch := first | omega | decide) only [go_sem, f1, f2, f6, f7, f16, f17, o2, o7, ck, cn, act_slice_s u22 ti5, cellsOf_page]; exact hK))
          apply adraw_step rfl
          · intro K hK
            simp (disch := first | omega | decide) only [go_sem, f1, f2, f6, f7, f16, f17, o2, o7, ck, cn, cellsOf_page]
            rw [asg_tmp (by simp (disch := first | omega | decide) only [go_sem, f1, f2, f6, f7, f16, f17, o2, o7, ck, cn, cellsOf_page]; rfl)]
            exact hK
          iterate 1 (apply adraw_step rfl; · (intro K hK; simp (disch := first | omega | decide) only [go_sem, f1, f2, f6, f7, f16, f17, o2, o7, ck, cn, cellsOf_page]; exact hK))
          refine adraw_nil (by kernel_rfl) ?_
          refine AW.region (cfg := cfg4) ?_
          iterate 2 (apply aops_step (by decide) rfl; · (intro K hK; simp (disch := first | omega | decide) only [go_sem, f1, f2, f6, f7, f16, f17, o2, o7, ck, cn, cellsOf_page]; exact hK _))
          refine aops_nil ?_
          refine ⟨_, _, rfl, ?_, ?_, ?_, ?_, ?_, ?_, ?_, ?_, ?_, ?_, (by intro i; simp [Mem.set, hr]), (by exact hG)⟩ <;> try simp (disch := first | omega | decide) only [go_sem, f1, f2, f6, f7, f16, f17, o2, o7, ck, cn, cellsOf_page]
          all_goals first | rfl | (right; omega) | (rw [allP_succ, mo1]; simpa [okAt_nil] using hbt53) | (rw [splitP_succ]; simp [pageA, pageAt]; done)
      case hf =>
        intro hb
        try simp only [Bool.or_eq_true, Bool.and_eq_true, Bool.or_eq_false_iff, Bool.and_eq_false_iff, decide_eq_true_eq, decide_eq_false_iff_not] at hb
        have hbt45 := hb
        refine AW.skip ?_
        refine AW.seq ?_
        refine AW.seq ?_
        refine AW.region (cfg := cfg4) ?_
        apply aops_step (by decide) rfl
        · intro K hK
          simp (disch := first | omega | decide) only [go_sem, f1, f2, f6, f7, f16, f17, o2, o7, ck, cn, act_load_t ti58, List.map, cellsOf_page]
          rw [mwp_load_bs (by simp (disch := first | omega | decide) only [go_sem, f1, f2, f6, f7, f16, f17, o2, o7, ck, cn, cellsOf_page]; rfl) (by simp [setAt])]
          exact hK _
        apply aops_step (by decide) rfl
        · intro K hK
          simp (disch := first | omega | decide) only [go_sem, f1, f2, f6, f7, f16, f17, o2, o7, ck, cn, act_call, List.map, cellsOf_page]
          apply mwp_call_s rfl rfl rfl
          · intro Q hQ
            (simp (disch := first | omega | decide) only [go_sem, f1, f2, f6, f7, f16, f17, o2, o7, ck, cn, peekL, reifyL_nil, reifyL_cons, reify_v, cellsOf_page]; (exact hQ))
          · exact (by exact good_right ⟨p.kind, p.gen, p.mark, p.idx, k, (parts (b.length : Int)), nil, chunk b k⟩ (by (show (chunk b k).length ≤ _; simp [chunk]; omega)))
          · simp [-List.map_take, -List.map_drop, -List.map_append, -List.map_replicate, -List.reduceReplicate, noPtrL, noPtr, noPtrL_bsl, noPtrL_map, sub]
          · rfl
          · exact hK _
        iterate 1 (apply aops_step (by decide) rfl; · (intro K hK; simp (disch := first | omega | decide) only [go_sem, f1, f2, f6, f7, f16, f17, o2, o7, ck, cn, cellsOf_page]; exact hK _))
        refine aops_nil ?_
        apply AW.cond
        · simp (disch := first | omega | decide) only [go_sem, f1, f2, f6, f7, f16, f17, o2, o7, ck, cn, cellsOf_page]; rfl
        case ht =>
          intro hb
          try simp only [Bool.or_eq_true, Bool.and_eq_true, Bool.or_eq_false_iff, Bool.and_eq_false_iff, decide_eq_true_eq, decide_eq_false_iff_not] at hb
          have hbt53 := hb
          refine AW.seq ?_
          refine AW.region (cfg := cfg4) ?_
          iterate 2 (apply aops_step (by decide) rfl; · (intro K hK; simp (disch := first | omega | decide) only [go_sem, f1, f2, f6, f7, f16, f17, o2, o7, ck, cn, sz91, cellsOf_page]; exact hK _))
          refine aops_nil ?_
          refine AW.ret ?_
          refine ⟨.inr rfl, ?_⟩
          all_goals (have zk : k = 0 := (by omega); subst zk; have zz := idx_out (p := p) (b := b) (n := parts (b.length : Int)) (by omega); obtain ⟨e1, e2, e3⟩ := split_no1 (p := p) (nil := nil) (b := b) hbt15 hk zz; rw [e1, e2, e3]; refine leavesN (leaves_own2 4 5 rfl (by simp (disch := first | omega | decide) only [go_sem, f1, f2, f6, f7, f16, f17, o2, o7, ck, cn, cellsOf_page] <;> rfl) (by simp (disch := first | omega | decide) only [go_sem, f1, f2, f6, f7, f16, f17, o2, o7, ck, cn, cellsOf_page] <;> rfl) (by simp (disch := first | omega | decide) only [go_sem, f1, f2, f6, f7, f16, f17, o2, o7, ck, cn, cellsOf_page] <;> rfl) (by decide) (by simp [sub]) (by exact hG)))
        case hf =>
          intro hb
          try simp only [Bool.or_eq_true, Bool.and_eq_true, Bool.or_eq_false_iff, Bool.and_eq_false_iff, decide_eq_true_eq, decide_eq_false_iff_not] at hb
          have hbt53 := hb
          refine AW.skip ?_
          refine AW.draw (cfg := cfg4) (by kernel_rfl) (by kernel_rfl) (by kernel_rfl) ?_
          iterate 1 (apply adraw_step rfl; · (intro K hK; simp (disch := first | omega | decide) only [go_sem, f1, f2, f6, f7, f16, f17, o2, o7, ck, cn, cellsOf_page]; exact hK))
          apply adraw_step rfl
          · intro K hK
            simp (disch := first | omega | decide) only [go_sem, f1, f2, f6, f7, f16, f17, o2, o7, ck, cn, act_load_t ti58, List.map, cellsOf_page]
            rw [mwp_load_bs (by simp (disch := first | omega | decide) only [go_sem, f1, f2, f6, f7, f16, f17, o2, o7, ck, cn, cellsOf_page]; rfl) (by simp [setAt])]
            exact hK
          apply adraw_step rfl
          · intro K hK
            rw [act_bs el91 ti58]
            (simp [-List.map_take, -List.map_drop, -BitVec.toNat_ofInt, -BitVec.ofInt_natCast, -BitVec.toNat_setWidth, -BitVec.toNat_ushiftRight, -BitVec.toNat_umod, -BitVec.toNat_udiv, go_sem, elems_v, cellishAV, Value.oneCell', isAggAV, partsOf, TI.z, TI.mk1, f1, f2, f6, f7, f16, f17, o2, o7, ck, cn]; exact hK)
          apply adraw_step rfl
          · intro K hK
            simp (disch := first | omega | decide) only [go_sem, f1, f2, f6, f7, f16, f17, o2, o7, ck, cn, List.map, cellsOf_page]
            apply mwp_append2 el91 ti58 u91
            case hpk => intro Q hQ; (rw [peek_own (by simp (disch := first | omega | decide) only [go_sem, f1, f2, f6, f7, f16, f17, o2, o7, ck, cn, cellsOf_page]; rfl)]; (try rw [sub_full (by rfl)]); exact hQ)
            case hs' => rfl
            case ho => simp (disch := first | omega | decide) only [go_sem, f1, f2, f6, f7, f16, f17, o2, o7, ck, cn, cellsOf_page]; rfl
            case hsz => rfl
            case hhi => (simp [splitP_len]; done)
            case hb => (simp [sub, roomB, splitP_len]; omega)
            case hy => exact all_cells rfl
            case k => (try simp only [List.nil_append, ← List.map_append, Bool.false_and]); exact hK
          iterate 3 (apply adraw_step rfl; · (intro K hK; simp (disch := first | omega | decide) only [go_sem, f1, f2, f6, f7, f16, f17, o2, o7, ck, cn, act_slice_s u22 ti5, cellsOf_page]; exact hK))
          apply adraw_step rfl
          · intro K hK
            simp (disch := first | omega | decide) only [go_sem, f1, f2, f6, f7, f16, f17, o2, o7, ck, cn, cellsOf_page]
            rw [asg_tmp (by simp (disch := first | omega | decide) only [go_sem, f1, f2, f6, f7, f16, f17, o2, o7, ck, cn, cellsOf_page]; rfl)]
            exact hK
          iterate 1 (apply adraw_step rfl; · (intro K hK; simp (disch := first | omega | decide) only [go_sem, f1, f2, f6, f7, f16, f17, o2, o7, ck, cn, cellsOf_page]; exact hK))
          refine adraw_nil (by kernel_rfl) ?_
          refine AW.region (cfg := cfg4) ?_
          iterate 2 (apply aops_step (by decide) rfl; · (intro K hK; simp (disch := first | omega | decide) only [go_sem, f1, f2, f6, f7, f16, f17, o2, o7, ck, cn, cellsOf_page]; exact hK _))
          refine aops_nil ?_
          refine ⟨_, _, rfl, ?_, ?_, ?_, ?_, ?_, ?_, ?_, ?_, ?_, ?_, (by intro i; simp [Mem.set, hr]), (by exact hG)⟩ <;> try simp (disch := first | omega | decide) only [go_sem, f1, f2, f6, f7, f16, f17, o2, o7, ck, cn, cellsOf_page]
          all_goals first | rfl | (exfalso; have h9 := idx_in (b := b) (by simpa using hbt53); omega)
    · clear f0 f1 hr hG
      rintro σ ⟨s, m, rfl, f1, f2, o2, f6, f7, o7, f16, f17, mo0, mo1, hr, hG⟩
      obtain ⟨g2, o2⟩ : ∃ g, m.objs (.tmp 2 0) = (g, .box [.v (i64 p.kind), .v (i64 p.gen), .v (i64 p.mark), .v (i64 p.idx), .v (i64 p.part), .v (i64 p.parts), .v (.sl 1 p.nil (bsl p.b))]) := ⟨_, Prod.ext rfl o2⟩
      rw [o2] at f2
      obtain ⟨g7, o7⟩ : ∃ g, m.objs (.var 7) = (g, .arr (decide ((parts (b.length : Int)).toNat = 0)) 7 ((splitP p nil b (parts (b.length : Int)).toNat).map pageA)) := ⟨_, Prod.ext rfl o7⟩
      rw [o7] at f7
      refine AW.seq ?_
      refine AW.region (cfg := cfg4) ?_
      iterate 1 (apply aops_step (by decide) rfl; · (intro K hK; simp (disch := first | omega | decide) only [go_sem, f1, f2, f6, f7, f16, f17, o2, o7, cellsOf_page]; exact hK _))
      refine aops_nil ?_
      refine AW.seq ?_
      apply AW.cond
      · simp (disch := first | omega | decide) only [go_sem, f1, f2, f6, f7, f16, f17, o2, o7, cellsOf_page]; rfl
      case ht => intro hb; (simp at hb; omega)
      case hf =>
      intro hb
      have hbt18 := hb
      refine AW.exit ?_
      refine AW.seq ?_
      have zz : ¬ parts (b.length : Int) = 0 := hbt15
      have zn : 0 ≤ parts (b.length : Int) := (by have := parts_is (n := (b.length : Int)) (fun hc => zz (parts_no hc)); omega)
      have zf := flag_end zz zn
      refine AW.region (cfg := cfg4) ?_
      iterate 1 (apply aops_step (by decide) rfl; · (intro K hK; simp (disch := first | omega | decide) only [go_sem, f1, f2, f6, f7, f16, f17, o2, o7, zf, cellsOf_page]; exact hK _))
      apply aops_step (by decide) rfl
      · intro K hK
        simp (disch := first | omega | decide) only [go_sem, f1, f2, f6, f7, f16, f17, o2, o7, zf, cellsOf_page]
        rw [asg_mv (by rfl) (by decide) (by simp (disch := first | omega | decide) only [go_sem, f1, f2, f6, f7, f16, f17, o2, o7, zf, cellsOf_page] <;> rfl)]
        exact hK _
      iterate 1 (apply aops_step (by decide) rfl; · (intro K hK; simp (disch := first | omega | decide) only [go_sem, f1, f2, f6, f7, f16, f17, o2, o7, zf, cellsOf_page]; exact hK _))
      refine aops_nil ?_
      refine AW.ret ?_
      refine ⟨.inr rfl, ?_⟩
      all_goals (have zz : ¬ parts (b.length : Int) = 0 := hbt15; obtain ⟨e1, e2, e3⟩ := split_yes (p := p) (nil := nil) (b := b) zz mo1; rw [e1, e2, e3]; refine leavesN (leaves_own2 4 5 rfl (by simp (disch := first | omega | decide) only [go_sem, f1, f2, f6, f7, f16, f17, o2, o7, zf, cellsOf_page] <;> rfl) (by simp (disch := first | omega | decide) only [go_sem, f1, f2, f6, f7, f16, f17, o2, o7, zf, cellsOf_page] <;> rfl) (by simp (disch := first | omega | decide) only [go_sem, f1, f2, f6, f7, f16, f17, o2, o7, zf, cellsOf_page] <;> rfl) (by decide) (by rw [sub_full (by simp [splitP_len])]) (by exact hG)))

end Go.Vai.R
