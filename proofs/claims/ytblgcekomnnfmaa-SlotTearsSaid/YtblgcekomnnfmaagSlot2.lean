import Derived.Test.YtblgcekomnnfmaagSlot
namespace Go.Vai.S7
open Go.Proofs Go.Vai Go.Vai.G Go.Vai.L Go.Vai.O Go.Vai.R Go.Vai.U Go.Vai.Z
set_option linter.unusedSimpArgs false
set_option linter.unusedVariables false

theorem mark_bd (x : PS) : 0 ≤ (valS x).mark ∧ (valS x).mark ≤ 2147483648 := by
  rw [valS]
  cases h : pgGood x.2 with
  | false => rw [pgV_no h]; decide
  | true => exact (page_bd (good_pg h)).2.2.1
theorem mark_0 : markOf okS valS ([] : List PS) = 0 := rfl
theorem mark_yes {l : List PS} {k : Nat} (hk : k < l.length) (h : pgGood (l[k]).2 = true) : markOf okS valS (l.take (k + 1)) = (if (valS l[k]).mark > markOf okS valS (l.take k) then (valS l[k]).mark else markOf okS valS (l.take k)) := by
  rw [markOf_take okS valS hk, if_pos (show okS l[k] = true from h)]
theorem mark_no {l : List PS} {k : Nat} (hk : k < l.length) (h : pgGood (l[k]).2 = false) : markOf okS valS (l.take (k + 1)) = markOf okS valS (l.take k) := by
  rw [markOf_take okS valS hk, if_neg (show ¬ okS l[k] = true by rw [okS, h]; decide)]
theorem mark_rg {l : List PS} : ∀ {k : Nat}, 0 ≤ markOf okS valS (l.take k) ∧ markOf okS valS (l.take k) ≤ 2147483648
  | 0 => by simp [mark_0]
  | k + 1 => by
    by_cases h : k < l.length
    · have i := mark_rg (l := l) (k := k)
      have b := mark_bd l[k]
      cases e : pgGood (l[k]).2 with
      | false => rw [mark_no h e]; exact i
      | true => rw [mark_yes h e]; split <;> omega
    · have i := mark_rg (l := l) (k := k)
      rw [List.take_of_length_le (by omega)] at i ⊢
      exact i
theorem bad_of_R {l : List (BitVec 8)} (h : ¬ pgR l = 0) : pgGood l = false := (pg0 l).1 h
theorem good_of_R0 {l : List (BitVec 8)} (h : pgR l = 0) : pgGood l = true := good_of_R (fun f => f h)
set_option maxHeartbeats 4000000 in
set_option maxRecDepth 100000 in
theorem good_Mark (nil : Bool) (l : List PS) (hl : l.length ≤ 1000000) (pl : ∀ x ∈ l, x.2.length ≤ 140737488355000 ∧ (x.1 = true → x.2 = [])) : Good Try.prog 27 [(.sl 1 nil (l.map pslice), false)] [] [(i64 (markOf okS valS l), false)] [] := by
  refine good_of_body2 27 Try.func27 rfl rfl rfl (by simp) ?_
  intro s m ha hr hv hG
  have f0 : s 0 = .v (.sl 1 nil (l.map pslice)) := ha 0 _ rfl
  clear ha
  refine AW.seq ?_
  refine AW.region (cfg := cfg) ?_
  iterate 1 (apply aops_step (by decide) rfl; · (intro K hK; simp (disch := first | omega | decide) only [go_sem, f0, cellsOf_ps, cellsOf_page]; exact hK _))
  refine aops_nil ?_
  refine AW.seq ?_
  refine AW.region (cfg := cfg) ?_
  iterate 1 (apply aops_step (by decide) rfl; · (intro K hK; simp (disch := first | omega | decide) only [go_sem, f0, cellsOf_ps, cellsOf_page]; exact hK _))
  refine aops_nil ?_
  refine AW.seq ?_
  refine AW.seq ?_
  refine AW.region (cfg := cfg) ?_
  iterate 3 (apply aops_step (by decide) rfl; · (intro K hK; simp (disch := first | omega | decide) only [go_sem, f0, List.map, List.length_map, aops_len u47, cellsOf_ps, cellsOf_page]; exact hK _))
  refine aops_nil ?_
  refine AW.block ?_
  refine AW.forN (fun k σ => ∃ s m, σ = ⟨27, s, m⟩ ∧ s 0 = .v (.sl 1 nil (l.map pslice)) ∧ s 3 = .v (i64 (markOf okS valS (l.take k))) ∧ s 8 = .v (.sl 1 nil (l.map pslice)) ∧ s 9 = .v (i64 (l.length : Int)) ∧ s 10 = .v (i64 (k : Int)) ∧ (∀ i, (m.objs (.res i)).2 = .dead) ∧ m.G = []) (l.length) ?_ ?_ ?_
  · refine ⟨_, _, rfl, ?_, ?_, ?_, ?_, ?_, (by intro i; simp [Mem.set, hr]), (by exact hG)⟩ <;> try simp (disch := first | omega | decide) only [go_sem, f0, cellsOf_ps, cellsOf_page]
    all_goals rfl
  · clear f0 hr hG
    rintro k σ hk ⟨s, m, rfl, f0, f3, f8, f9, f10, hr, hG⟩
    refine AW.seq ?_
    refine AW.region (cfg := cfg) ?_
    iterate 1 (apply aops_step (by decide) rfl; · (intro K hK; simp (disch := first | omega | decide) only [go_sem, f0, f3, f8, f9, f10, cellsOf_ps, cellsOf_page]; exact hK _))
    refine aops_nil ?_
    refine AW.seq ?_
    apply AW.cond
    · simp (disch := first | omega | decide) only [go_sem, f0, f3, f8, f9, f10, cellsOf_ps, cellsOf_page]; rfl
    case hf => intro hb; (simp at hb; omega)
    case ht =>
    intro hb
    have hbt11 := hb
    refine AW.skip ?_
    refine AW.seq ?_
    refine AW.block ?_
    refine AW.seq ?_
    have hkl : k < l.length := hk
    obtain ⟨pk1, pk2⟩ := pl l[k] (List.getElem_mem hkl)
    have pk3 := mark_bd l[k]
    have pk4 := mark_rg (l := l) (k := k)
    refine AW.region (cfg := cfg) ?_
    apply aops_step (by decide) rfl
    · intro K hK
      simp (disch := first | omega | decide) only [go_sem, f0, f3, f8, f9, f10, act_indexAddr_s u47 ti22, List.map, cellsOf_ps, cellsOf_page]
      skip
      exact hK _
    apply aops_step (by decide) rfl
    · intro K hK
      simp (disch := first | omega | decide) only [go_sem, f0, f3, f8, f9, f10, act_load_t ti22, List.map, cellsOf_ps, cellsOf_page]
      skip
      exact hK _
    iterate 1 (apply aops_step (by decide) rfl; · (intro K hK; simp (disch := first | omega | decide) only [go_sem, f0, f3, f8, f9, f10, cellsOf_ps, cellsOf_page]; exact hK _))
    refine aops_nil ?_
    refine AW.seq ?_
    refine AW.region (cfg := cfg) ?_
    iterate 1 (apply aops_step (by decide) rfl; · (intro K hK; simp (disch := first | omega | decide) only [go_sem, f0, f3, f8, f9, f10, cellsOf_ps, cellsOf_page]; exact hK _))
    apply aops_step (by decide) rfl
    · intro K hK
      simp (disch := first | omega | decide) only [go_sem, f0, f3, f8, f9, f10, act_call, List.map, cellsOf_ps, cellsOf_page]
      apply mwp_call_r rfl rfl rfl
      · intro Q hQ
        (simp (disch := first | omega | decide) only [go_sem, f0, f3, f8, f9, f10, peekL, reifyL_nil, reifyL_cons, reify_v, cellsOf_ps, cellsOf_page]; (exact hQ))
      · exact good_GetP l[k].1 l[k].2 (by omega) pk2
      · simp [-List.map_take, -List.map_drop, -List.map_append, -List.map_replicate, -List.reduceReplicate, noPtrL, noPtr, noPtrL_bsl, noPtrL_map, sub]
      · simp (disch := first | omega | decide) only [go_sem, f0, f3, f8, f9, f10, cellsOf_ps, cellsOf_page]
        exact hK _
    iterate 3 (apply aops_step (by decide) rfl; · (intro K hK; simp (disch := first | omega | decide) only [go_sem, f0, f3, f8, f9, f10, cellsOf_ps, cellsOf_page]; exact hK _))
    apply aops_step (by decide) rfl
    · intro K hK
      simp (disch := first | omega | decide) only [go_sem, f0, f3, f8, f9, f10, act_alloc_t ti58, List.map, cellsOf_ps, cellsOf_page]
      exact hK _
    apply aops_step0 rfl
    · intro K hK
      simp (disch := first | omega | decide) only [go_sem, f0, f3, f8, f9, f10, act_store_t ti58, List.map, cellsOf_ps, cellsOf_page]
      rw [mwp_store_c (by simp (disch := first | omega | decide) only [go_sem, f0, f3, f8, f9, f10, cellsOf_ps, cellsOf_page]; rfl) (by rfl) (by rfl) (by rfl) (by simp)]
      try simp only [setAt, cellsL, cellsOf_agg, cellsOf_base, List.map_cons, List.map_nil, List.set_cons_zero, List.set_cons_succ, Nat.reduceAdd, Nat.zero_add, hG]
      exact hK _
    iterate 1 (apply aops_step (by decide) rfl; · (intro K hK; simp (disch := first | omega | decide) only [go_sem, f0, f3, f8, f9, f10, cellsOf_ps, cellsOf_page]; exact hK _))
    refine aops_nil ?_
    refine AW.seq ?_
    refine AW.region (cfg := cfg) ?_
    iterate 2 (apply aops_step (by decide) rfl; · (intro K hK; simp (disch := first | omega | decide) only [go_sem, f0, f3, f8, f9, f10, cellsOf_ps, cellsOf_page]; exact hK _))
    refine aops_nil ?_
    apply AW.cond
    · simp (disch := first | omega | decide) only [go_sem, f0, f3, f8, f9, f10, cellsOf_ps, cellsOf_page]; rfl
    case ht =>
      intro hb
      try simp only [Bool.or_eq_true, Bool.and_eq_true, Bool.or_eq_false_iff, Bool.and_eq_false_iff, decide_eq_true_eq, decide_eq_false_iff_not] at hb
      have hbt20 := hb
      refine AW.region (cfg := cfg) ?_
      iterate 1 (apply aops_step (by decide) rfl; · (intro K hK; simp (disch := first | omega | decide) only [go_sem, f0, f3, f8, f9, f10, cellsOf_ps, cellsOf_page]; exact hK _))
      apply aops_step (by decide) rfl
      · intro K hK
        simp (disch := first | omega | decide) only [go_sem, f0, f3, f8, f9, f10, act_fieldAddr_t fo58_2, List.map, cellsOf_ps, cellsOf_page]
        rw [mwp_fieldAddr_b (by simp (disch := first | omega | decide) only [go_sem, f0, f3, f8, f9, f10, cellsOf_ps, cellsOf_page]; rfl)]
        exact hK _
      apply aops_step (by decide) rfl
      · intro K hK
        simp (disch := first | omega | decide) only [go_sem, f0, f3, f8, f9, f10, act_load_t ti3, List.map, cellsOf_ps, cellsOf_page]
        rw [mwp_load_b1 (by simp (disch := first | omega | decide) only [go_sem, f0, f3, f8, f9, f10, cellsOf_ps, cellsOf_page]; rfl) (by rfl)]
        exact hK _
      iterate 2 (apply aops_step (by decide) rfl; · (intro K hK; simp (disch := first | omega | decide) only [go_sem, f0, f3, f8, f9, f10, cellsOf_ps, cellsOf_page]; exact hK _))
      refine aops_nil ?_
      refine AW.region (cfg := cfg) ?_
      iterate 2 (apply aops_step (by decide) rfl; · (intro K hK; simp (disch := first | omega | decide) only [go_sem, f0, f3, f8, f9, f10, cellsOf_ps, cellsOf_page]; exact hK _))
      refine aops_nil ?_
      refine ⟨_, _, rfl, ?_, ?_, ?_, ?_, ?_, (by intro i; simp [Mem.set, hr]), (by exact hG)⟩ <;> try simp (disch := first | omega | decide) only [go_sem, f0, f3, f8, f9, f10, cellsOf_ps, cellsOf_page]
      all_goals first | rfl | (rw [mark_yes hk (good_of_R0 hb)]; rfl)
    case hf =>
      intro hb
      try simp only [Bool.or_eq_true, Bool.and_eq_true, Bool.or_eq_false_iff, Bool.and_eq_false_iff, decide_eq_true_eq, decide_eq_false_iff_not] at hb
      have hbt20 := hb
      refine AW.skip ?_
      refine AW.region (cfg := cfg) ?_
      iterate 2 (apply aops_step (by decide) rfl; · (intro K hK; simp (disch := first | omega | decide) only [go_sem, f0, f3, f8, f9, f10, cellsOf_ps, cellsOf_page]; exact hK _))
      refine aops_nil ?_
      refine ⟨_, _, rfl, ?_, ?_, ?_, ?_, ?_, (by intro i; simp [Mem.set, hr]), (by exact hG)⟩ <;> try simp (disch := first | omega | decide) only [go_sem, f0, f3, f8, f9, f10, cellsOf_ps, cellsOf_page]
      all_goals first | rfl | (rw [mark_no hk (bad_of_R hb)]; done)
  · clear f0 hr hG
    rintro σ ⟨s, m, rfl, f0, f3, f8, f9, f10, hr, hG⟩
    refine AW.seq ?_
    refine AW.region (cfg := cfg) ?_
    iterate 1 (apply aops_step (by decide) rfl; · (intro K hK; simp (disch := first | omega | decide) only [go_sem, f0, f3, f8, f9, f10, cellsOf_ps, cellsOf_page]; exact hK _))
    refine aops_nil ?_
    refine AW.seq ?_
    apply AW.cond
    · simp (disch := first | omega | decide) only [go_sem, f0, f3, f8, f9, f10, cellsOf_ps, cellsOf_page]; rfl
    case ht => intro hb; (simp at hb; done)
    case hf =>
    intro hb
    have hbt11 := hb
    refine AW.exit ?_
    refine AW.seq ?_
    refine AW.region (cfg := cfg) ?_
    iterate 2 (apply aops_step (by decide) rfl; · (intro K hK; simp (disch := first | omega | decide) only [go_sem, f0, f3, f8, f9, f10, cellsOf_ps, cellsOf_page]; exact hK _))
    refine aops_nil ?_
    refine AW.ret ?_
    refine ⟨.inr rfl, ?_⟩
    refine leaves_tmp1 2 rfl ?_ (by exact hG)
    simp (disch := first | omega | decide) only [go_sem, f0, f3, f8, f9, f10, cellsOf_ps, cellsOf_page]
    all_goals (rw [List.take_length]; done)

end Go.Vai.S7
