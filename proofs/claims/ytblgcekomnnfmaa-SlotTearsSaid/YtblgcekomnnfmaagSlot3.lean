import Derived.Test.YtblgcekomnnfmaagSlot2
namespace Go.Vai.S7
open Go.Proofs Go.Vai Go.Vai.G Go.Vai.L Go.Vai.O Go.Vai.R Go.Vai.U Go.Vai.Z
set_option linter.unusedSimpArgs false
set_option linter.unusedVariables false

theorem pg_le (l : List PS) : (pagesOf okS valS l).length ≤ l.length := by
  rw [pagesOf, List.length_map]
  exact (List.takeWhile_sublist _).length_le
theorem pg_small (l : List PS) : ∀ x ∈ pagesOf okS valS l, x.b.length ≤ 488 := fun x hx => by
  rw [pagesOf] at hx
  obtain ⟨y, _, rfl⟩ := List.mem_map.1 hx
  exact valS_bd y
theorem slot_f0 {l : List Page} (h : joinOK l = false) : slotOK l = false ∧ slotB l = [] ∧ slotG l = 0 := by
  have e : slotOK l = false := by rw [slotOK, h, Bool.false_and]
  exact ⟨e, by rw [slotB, e]; rfl, by rw [slotG, e]; rfl⟩
theorem slot_f1 {l : List Page} (h0 : 0 < l.length) (h : l[0].kind ≠ 1 ∨ l[0].idx ≠ 0) : slotOK l = false ∧ slotB l = [] ∧ slotG l = 0 := by
  have e : slotOK l = false := by
    rw [slotOK, getD0 h0]
    rcases h with h | h
    · rw [decide_eq_false h, Bool.false_and, Bool.and_false]
    · rw [decide_eq_false h, Bool.and_false, Bool.and_false]
  exact ⟨e, by rw [slotB, e]; rfl, by rw [slotG, e]; rfl⟩
theorem slot_t {l : List Page} (h0 : 0 < l.length) (hj : joinOK l = true) (h : l[0].kind = 1 ∧ l[0].idx = 0) : slotOK l = true ∧ slotB l = joinB l ∧ slotG l = l[0].gen := by
  have e : slotOK l = true := by
    rw [slotOK, getD0 h0, hj, decide_eq_true h.1, decide_eq_true h.2]; rfl
  exact ⟨e, by rw [slotB, e]; rfl, by rw [slotG, e, getD0 h0]; rfl⟩
theorem join_way (l : List Page) : joinOK l = false ∨ (joinOK l = true ∧ 0 < l.length) := by
  cases e : joinOK l with
  | false => exact .inl rfl
  | true =>
    have e2 := e
    simp only [joinOK, Bool.and_eq_true] at e2
    exact .inr ⟨rfl, (head_is e2.1).1⟩
set_option maxHeartbeats 4000000 in
set_option maxRecDepth 100000 in
theorem good_Load (nil : Bool) (l : List PS) (hl : l.length ≤ 1000000) (pl : ∀ x ∈ l, x.2.length ≤ 140737488355000 ∧ (x.1 = true → x.2 = [])) : Good Try.prog 21 [(.sl 1 nil (l.map pslice), false)] [] [(baseA (slotG (pagesOf okS valS l)) ((slotB (pagesOf okS valS l)).isEmpty) (slotB (pagesOf okS valS l)), false), (.b (slotOK (pagesOf okS valS l)), false)] [] := by
  refine good_of_body4 39 Try.func21 rfl rfl rfl (by simp) (by simp) (by simp [noPtrL, noPtr]) (by simp [noPtrL, noPtr]) ?_
  intro s m ha hr hv hG
  have f0 : s 0 = .v (.sl 1 nil (l.map pslice)) := ha 0 _ rfl
  clear ha
  refine AW.seq ?_
  refine AW.region (cfg := cfg) ?_
  apply aops_step (by decide) rfl
  · intro K hK
    simp (disch := first | omega | decide) only [go_sem, f0, act_alloc_t ti45, List.map, cellsOf_page, cellsOf_base, Int.toNat_zero]
    exact hK _
  iterate 1 (apply aops_step (by decide) rfl; · (intro K hK; simp (disch := first | omega | decide) only [go_sem, f0, cellsOf_page, cellsOf_base, Int.toNat_zero]; exact hK _))
  refine aops_nil ?_
  refine AW.seq ?_
  have hpl := pg_le l
  have hps := pg_small l
  refine AW.region (cfg := cfg) ?_
  iterate 1 (apply aops_step (by decide) rfl; · (intro K hK; simp (disch := first | omega | decide) only [go_sem, f0, cellsOf_page, cellsOf_base, Int.toNat_zero]; exact hK _))
  apply aops_step (by decide) rfl
  · intro K hK
    simp (disch := first | omega | decide) only [go_sem, f0, act_call, List.map, cellsOf_page, cellsOf_base, Int.toNat_zero]
    apply mwp_call_r rfl rfl rfl
    · intro Q hQ
      (simp (disch := first | omega | decide) only [go_sem, f0, peekL, reifyL_nil, reifyL_cons, reify_v, cellsOf_page, cellsOf_base, Int.toNat_zero]; (exact hQ))
    · exact good_pagesS nil l (by omega) pl
    · simp [-List.map_take, -List.map_drop, -List.map_append, -List.map_replicate, -List.reduceReplicate, noPtrL, noPtr, noPtrL_bsl, noPtrL_map, sub]
    · simp (disch := first | omega | decide) only [go_sem, f0, cellsOf_page, cellsOf_base, Int.toNat_zero]
      exact hK _
  iterate 1 (apply aops_step (by decide) rfl; · (intro K hK; simp (disch := first | omega | decide) only [go_sem, f0, cellsOf_page, cellsOf_base, Int.toNat_zero]; exact hK _))
  refine aops_nil ?_
  refine AW.seq ?_
  refine AW.region (cfg := cfg) ?_
  iterate 1 (apply aops_step (by decide) rfl; · (intro K hK; simp (disch := first | omega | decide) only [go_sem, f0, cellsOf_page, cellsOf_base, Int.toNat_zero]; exact hK _))
  apply aops_step (by decide) rfl
  · intro K hK
    simp (disch := first | omega | decide) only [go_sem, f0, act_call, List.map, cellsOf_page, cellsOf_base, Int.toNat_zero]
    apply mwp_call_r rfl rfl rfl
    · intro Q hQ
      (simp (disch := first | omega | decide) only [go_sem, f0, peekL, reifyL_nil, reifyL_cons, reify_v, cellsOf_page, cellsOf_base, Int.toNat_zero]; (exact hQ))
    · exact good_Join (pagesOf okS valS l).isEmpty (pagesOf okS valS l) (by omega) (fun x hx => by have := hps x hx; omega)
    · simp [-List.map_take, -List.map_drop, -List.map_append, -List.map_replicate, -List.reduceReplicate, noPtrL, noPtr, noPtrL_bsl, noPtrL_map, sub]
    · simp (disch := first | omega | decide) only [go_sem, f0, cellsOf_page, cellsOf_base, Int.toNat_zero]
      exact hK _
  iterate 7 (apply aops_step (by decide) rfl; · (intro K hK; simp (disch := first | omega | decide) only [go_sem, f0, cellsOf_page, cellsOf_base, Int.toNat_zero]; exact hK _))
  refine aops_nil ?_
  refine AW.seq ?_
  refine AW.seq ?_
  rcases join_way (pagesOf okS valS l) with hj | ⟨hj1, hjl⟩
  · skip
    have hj1 := hj
    refine AW.region (cfg := cfg) ?_
    iterate 3 (apply aops_step (by decide) rfl; · (intro K hK; simp (disch := first | omega | decide) only [go_sem, f0, hj1, cellsOf_page, cellsOf_base, Int.toNat_zero]; exact hK _))
    apply aops_skip' (by decide) rfl
    apply aops_skip' (by decide) rfl
    apply aops_skip' (by decide) rfl
    apply aops_skip' (by decide) rfl
    apply aops_skip' (by decide) rfl
    iterate 2 (apply aops_step (by decide) rfl; · (intro K hK; simp (disch := first | omega | decide) only [go_sem, f0, hj1, cellsOf_page, cellsOf_base, Int.toNat_zero]; exact hK _))
    apply aops_skip' (by decide) rfl
    apply aops_skip' (by decide) rfl
    apply aops_skip' (by decide) rfl
    apply aops_skip' (by decide) rfl
    apply aops_skip' (by decide) rfl
    iterate 1 (apply aops_step (by decide) rfl; · (intro K hK; simp (disch := first | omega | decide) only [go_sem, f0, hj1, cellsOf_page, cellsOf_base, Int.toNat_zero]; exact hK _))
    refine aops_nil ?_
    apply AW.cond
    · simp (disch := first | omega | decide) only [go_sem, f0, hj1, cellsOf_page, cellsOf_base, Int.toNat_zero]; rfl
    case hf => intro hb; (simp at hb; done)
    case ht =>
    intro hb
    have hbt31 := hb
    refine AW.seq ?_
    refine AW.region (cfg := cfg) ?_
    apply aops_step (by decide) rfl
    · intro K hK
      simp (disch := first | omega | decide) only [go_sem, f0, hj1, act_build_t ti45 pl45, List.map, cellsOf_page, cellsOf_base, Int.toNat_zero]
      simp [-List.map_take, -List.map_drop, fillL, okOne, cellishAV, Value.oneCell', cellsL, cellsOf, setAt, M.bind, Mwp, mset_same, Obj.isArr]
      exact hK _
    apply aops_step0 rfl
    · intro K hK
      simp (disch := first | omega | decide) only [go_sem, f0, hj1, act_store_t ti45, List.map, cellsOf_page, cellsOf_base, Int.toNat_zero]
      rw [mwp_store_c (by simp (disch := first | omega | decide) only [go_sem, f0, hj1, cellsOf_page, cellsOf_base, Int.toNat_zero]; rfl) (by rfl) (by rfl) (by rfl) (by simp)]
      try simp only [setAt, cellsL, cellsOf_agg, cellsOf_base, List.map_cons, List.map_nil, List.set_cons_zero, List.set_cons_succ, Nat.reduceAdd, Nat.zero_add, hG]
      exact hK _
    iterate 1 (apply aops_step (by decide) rfl; · (intro K hK; simp (disch := first | omega | decide) only [go_sem, f0, hj1, cellsOf_page, cellsOf_base, Int.toNat_zero]; exact hK _))
    refine aops_nil ?_
    refine AW.ret ?_
    refine ⟨.inr rfl, ?_⟩
    apply Exists.intro
    (have zz := slot_f0 hj)
    obtain ⟨e1, e2, e3⟩ := zz
    rw [e1, e2, e3]
    refine leaves_mwp2 (rs := [.cell 2 45, .tmp 3]) rfl ?_; simp (config := {failIfUnchanged := false}) [giveL, srcOne, rehome, freezeN, sub, ti45, upd, opn, aLoad, loadL, giveOne, reify, reifyL, readL, readOne, Mwp, M.bind, Mem.set, setAt, cellsL, hG, f0, hj1]
    exact ⟨rfl, rfl⟩
  · skip
    have hj := d00
    refine AW.region (cfg := cfg) ?_
    iterate 4 (apply aops_step (by decide) rfl; · (intro K hK; simp (disch := first | omega | decide) only [go_sem, f0, hj1, cellsOf_page, cellsOf_base, Int.toNat_zero]; exact hK _))
    apply aops_step (by decide) rfl
    · intro K hK
      simp (disch := first | omega | decide) only [go_sem, f0, hj1, act_indexAddr_s u91 ti58, List.map, cellsOf_page, cellsOf_base, Int.toNat_zero]
      skip
      exact hK _
    apply aops_step (by decide) rfl
    · intro K hK
      simp (disch := first | omega | decide) only [go_sem, f0, hj1, act_fieldAddr_t fo58_0, List.map, cellsOf_page, cellsOf_base, Int.toNat_zero]
      skip
      exact hK _
    apply aops_step (by decide) rfl
    · intro K hK
      simp (disch := first | omega | decide) only [go_sem, f0, hj1, act_load_t ti3, List.map, cellsOf_page, cellsOf_base, Int.toNat_zero]
      rw [mwp_load_i1 (by rfl)]
      exact hK _
    iterate 3 (apply aops_step (by decide) rfl; · (intro K hK; simp (disch := first | omega | decide) only [go_sem, f0, hj1, cellsOf_page, cellsOf_base, Int.toNat_zero]; exact hK _))
    apply aops_merge' (by decide) (by exact want_of (d := 25) rfl (by simp (disch := first | omega | decide) only [go_sem, f0, hj1, opn_cond, cellsOf_page, cellsOf_base, Int.toNat_zero]; rfl))
    · intro hc K hK
      have hc2 := hc
      simp only [beq_iff_eq, decide_eq_true_eq, decide_eq_false_iff_not, Bool.or_eq_true, Bool.and_eq_true, Bool.or_eq_false_iff, Bool.and_eq_false_iff] at hc2
      simp (disch := first | omega | decide) only [go_sem, f0, hj1, opn_cond, hc, if_true, cellsOf_page, cellsOf_base, Int.toNat_zero]
      exact hK _
    apply aops_merge' (by decide) (by exact want_of (d := 25) rfl (by simp (disch := first | omega | decide) only [go_sem, f0, hj1, opn_cond, cellsOf_page, cellsOf_base, Int.toNat_zero]; rfl))
    · intro hc K hK
      have hc2 := hc
      simp only [beq_iff_eq, decide_eq_true_eq, decide_eq_false_iff_not, Bool.or_eq_true, Bool.and_eq_true, Bool.or_eq_false_iff, Bool.and_eq_false_iff] at hc2
      simp (disch := first | omega | decide) only [go_sem, f0, hj1, opn_cond, hc, if_true, act_indexAddr_s u91 ti58, cellsOf_page, cellsOf_base, Int.toNat_zero]
      skip
      exact hK _
    apply aops_merge' (by decide) (by exact want_of (d := 25) rfl (by simp (disch := first | omega | decide) only [go_sem, f0, hj1, opn_cond, cellsOf_page, cellsOf_base, Int.toNat_zero]; rfl))
    · intro hc K hK
      have hc2 := hc
      simp only [beq_iff_eq, decide_eq_true_eq, decide_eq_false_iff_not, Bool.or_eq_true, Bool.and_eq_true, Bool.or_eq_false_iff, Bool.and_eq_false_iff] at hc2
      simp (disch := first | omega | decide) only [go_sem, f0, hj1, opn_cond, hc, if_true, act_fieldAddr_t fo58_3, cellsOf_page, cellsOf_base, Int.toNat_zero]
      skip
      exact hK _
    apply aops_merge' (by decide) (by exact want_of (d := 25) rfl (by simp (disch := first | omega | decide) only [go_sem, f0, hj1, opn_cond, cellsOf_page, cellsOf_base, Int.toNat_zero]; rfl))
    · intro hc K hK
      have hc2 := hc
      simp only [beq_iff_eq, decide_eq_true_eq, decide_eq_false_iff_not, Bool.or_eq_true, Bool.and_eq_true, Bool.or_eq_false_iff, Bool.and_eq_false_iff] at hc2
      simp (disch := first | omega | decide) only [go_sem, f0, hj1, opn_cond, hc, if_true, act_load_t ti3, cellsOf_page, cellsOf_base, Int.toNat_zero]
      rw [mwp_load_i1 (by rfl)]
      exact hK _
    apply aops_merge' (by decide) (by exact want_of (d := 25) rfl (by simp (disch := first | omega | decide) only [go_sem, f0, hj1, opn_cond, cellsOf_page, cellsOf_base, Int.toNat_zero]; rfl))
    · intro hc K hK
      have hc2 := hc
      simp only [beq_iff_eq, decide_eq_true_eq, decide_eq_false_iff_not, Bool.or_eq_true, Bool.and_eq_true, Bool.or_eq_false_iff, Bool.and_eq_false_iff] at hc2
      simp (disch := first | omega | decide) only [go_sem, f0, hj1, opn_cond, hc, if_true, cellsOf_page, cellsOf_base, Int.toNat_zero]
      exact hK _
    iterate 1 (apply aops_step (by decide) rfl; · (intro K hK; simp (disch := first | omega | decide) only [go_sem, f0, hj1, cellsOf_page, cellsOf_base, Int.toNat_zero]; exact hK _))
    refine aops_nil ?_
    apply AW.cond
    · simp (disch := first | omega | decide) only [go_sem, f0, hj1, cellsOf_page, cellsOf_base, Int.toNat_zero]; rfl
    case ht =>
      intro hb
      try simp only [Bool.or_eq_true, Bool.and_eq_true, Bool.or_eq_false_iff, Bool.and_eq_false_iff, decide_eq_true_eq, decide_eq_false_iff_not] at hb
      have hbt31 := hb
      refine AW.seq ?_
      refine AW.region (cfg := cfg) ?_
      apply aops_step (by decide) rfl
      · intro K hK
        simp (disch := first | omega | decide) only [go_sem, f0, hj1, act_build_t ti45 pl45, List.map, cellsOf_page, cellsOf_base, Int.toNat_zero]
        simp [-List.map_take, -List.map_drop, fillL, okOne, cellishAV, Value.oneCell', cellsL, cellsOf, setAt, M.bind, Mwp, mset_same, Obj.isArr]
        exact hK _
      apply aops_step0 rfl
      · intro K hK
        simp (disch := first | omega | decide) only [go_sem, f0, hj1, act_store_t ti45, List.map, cellsOf_page, cellsOf_base, Int.toNat_zero]
        rw [mwp_store_c (by simp (disch := first | omega | decide) only [go_sem, f0, hj1, cellsOf_page, cellsOf_base, Int.toNat_zero]; rfl) (by rfl) (by rfl) (by rfl) (by simp)]
        try simp only [setAt, cellsL, cellsOf_agg, cellsOf_base, List.map_cons, List.map_nil, List.set_cons_zero, List.set_cons_succ, Nat.reduceAdd, Nat.zero_add, hG]
        exact hK _
      iterate 1 (apply aops_step (by decide) rfl; · (intro K hK; simp (disch := first | omega | decide) only [go_sem, f0, hj1, cellsOf_page, cellsOf_base, Int.toNat_zero]; exact hK _))
      refine aops_nil ?_
      refine AW.ret ?_
      refine ⟨.inr rfl, ?_⟩
      apply Exists.intro
      (have zz := slot_f1 hjl (by omega))
      obtain ⟨e1, e2, e3⟩ := zz
      rw [e1, e2, e3]
      refine leaves_mwp2 (rs := [.cell 2 45, .tmp 3]) rfl ?_; simp (config := {failIfUnchanged := false}) [giveL, srcOne, rehome, freezeN, sub, ti45, upd, opn, aLoad, loadL, giveOne, reify, reifyL, readL, readOne, Mwp, M.bind, Mem.set, setAt, cellsL, hG, f0, hj1]
      exact ⟨rfl, rfl⟩
    case hf =>
      intro hb
      try simp only [Bool.or_eq_true, Bool.and_eq_true, Bool.or_eq_false_iff, Bool.and_eq_false_iff, decide_eq_true_eq, decide_eq_false_iff_not] at hb
      have hbt31 := hb
      refine AW.skip ?_
      refine AW.seq ?_
      refine AW.region (cfg := cfg) ?_
      iterate 1 (apply aops_step (by decide) rfl; · (intro K hK; simp (disch := first | omega | decide) only [go_sem, f0, hj1, cellsOf_page, cellsOf_base, Int.toNat_zero]; exact hK _))
      apply aops_step (by decide) rfl
      · intro K hK
        simp (disch := first | omega | decide) only [go_sem, f0, hj1, act_indexAddr_s u91 ti58, List.map, cellsOf_page, cellsOf_base, Int.toNat_zero]
        skip
        exact hK _
      apply aops_step (by decide) rfl
      · intro K hK
        simp (disch := first | omega | decide) only [go_sem, f0, hj1, act_fieldAddr_t fo58_1, List.map, cellsOf_page, cellsOf_base, Int.toNat_zero]
        skip
        exact hK _
      apply aops_step (by decide) rfl
      · intro K hK
        simp (disch := first | omega | decide) only [go_sem, f0, hj1, act_load_t ti3, List.map, cellsOf_page, cellsOf_base, Int.toNat_zero]
        rw [mwp_load_i1 (by rfl)]
        exact hK _
      iterate 1 (apply aops_step (by decide) rfl; · (intro K hK; simp (disch := first | omega | decide) only [go_sem, f0, hj1, cellsOf_page, cellsOf_base, Int.toNat_zero]; exact hK _))
      apply aops_step (by decide) rfl
      · intro K hK
        simp (disch := first | omega | decide) only [go_sem, f0, hj1, act_build_t ti45 pl45, List.map, cellsOf_page, cellsOf_base, Int.toNat_zero]
        simp [-List.map_take, -List.map_drop, fillL, okOne, cellishAV, Value.oneCell', cellsL, cellsOf, setAt, M.bind, Mwp, mset_same, Obj.isArr]
        exact hK _
      apply aops_step0 rfl
      · intro K hK
        simp (disch := first | omega | decide) only [go_sem, f0, hj1, act_store_t ti45, List.map, cellsOf_page, cellsOf_base, Int.toNat_zero]
        rw [mwp_store_c (by simp (disch := first | omega | decide) only [go_sem, f0, hj1, cellsOf_page, cellsOf_base, Int.toNat_zero]; rfl) (by rfl) (by rfl) (by rfl) (by simp)]
        try simp only [setAt, cellsL, cellsOf_agg, cellsOf_base, List.map_cons, List.map_nil, List.set_cons_zero, List.set_cons_succ, Nat.reduceAdd, Nat.zero_add, hG]
        exact hK _
      iterate 1 (apply aops_step (by decide) rfl; · (intro K hK; simp (disch := first | omega | decide) only [go_sem, f0, hj1, cellsOf_page, cellsOf_base, Int.toNat_zero]; exact hK _))
      refine aops_nil ?_
      refine AW.ret ?_
      refine ⟨.inr rfl, ?_⟩
      apply Exists.intro
      (have zz := slot_t hjl hj1 (by omega))
      obtain ⟨e1, e2, e3⟩ := zz
      rw [e1, e2, e3]
      refine leaves_mwp2 (rs := [.cell 2 45, .tmp 3]) rfl ?_; simp (config := {failIfUnchanged := false}) [giveL, srcOne, rehome, freezeN, sub, ti45, upd, opn, aLoad, loadL, giveOne, reify, reifyL, readL, readOne, Mwp, M.bind, Mem.set, setAt, cellsL, hG, f0, hj1]
      exact ⟨rfl, rfl⟩

end Go.Vai.S7
