import Derived.Test.YtblgcekomnnfmaagSlot5
namespace Go.Vai.S7
open Go.Proofs Go.Vai Go.Vai.G Go.Vai.L Go.Vai.O Go.Vai.R Go.Vai.U Go.Vai.Z
set_option linter.unusedSimpArgs false
set_option linter.unusedVariables false

theorem pagesOf_app {a : List PS} (h : a.all okS = true) (more : List PS) : pagesOf okS valS (a ++ more) = a.map valS ++ pagesOf okS valS more := by
  induction a with
  | nil => rfl
  | cons x t ih =>
    simp only [List.all_cons, Bool.and_eq_true] at h
    have := ih h.2
    rw [pagesOf, List.cons_append, List.takeWhile_cons, if_pos h.1, List.map_cons]
    show valS x :: pagesOf okS valS (t ++ more) = _
    rw [this]; rfl
theorem secOf_good {q : Page} (h : pageOK q = true) : okS (secOf q) = true ∧ valS (secOf q) = ⟨q.kind, q.gen, q.mark, q.idx, q.part, q.parts, false, q.b⟩ := by
  obtain ⟨e1, e2, _⟩ := page_back h
  exact ⟨e1, e2⟩
theorem secL_good {g mark : Int} {b : List (BitVec 8)} (h : splitOK (secP g mark) b = true) : (secL g mark b (secN b)).all okS = true ∧ (secL g mark b (secN b)).map valS = splitP (secP g mark) false b (secN b) := by
  have hq : ∀ k, k < secN b → pageOK (pageAt (secP g mark) false b (parts (b.length : Int)) k) = true := fun k hk => splitOK_at h hk
  refine ⟨?_, ?_⟩
  · simp only [secL, List.all_eq_true, List.mem_map]
    rintro x ⟨q, hx, rfl⟩
    obtain ⟨i, hi, rfl⟩ := List.mem_iff_getElem.1 hx
    have hi2 : i < secN b := by simpa [splitP_len] using hi
    rw [splitP_get hi2]
    exact (secOf_good (hq i hi2)).1
  · apply List.ext_getElem
    · simp [secL_len, splitP_len]
    · intro i h1 h2
      have hi2 : i < secN b := by simpa [splitP_len] using h2
      simp only [secL, List.getElem_map]
      rw [splitP_get hi2, (secOf_good (hq i hi2)).2]
      rfl
theorem sec_is {g mark most : Int} {b : List (BitVec 8)} (h : secE g mark most b = 0) : splitOK (secP g mark) b = true ∧ secOK g mark most b = true ∧ secR g mark most b = secL g mark b (secN b) ∧ parts (b.length : Int) ≠ 0 := by
  have h1 : ¬ (parts (b.length : Int) > most ∨ parts (b.length : Int) = 0) := fun h2 => by rw [secE, if_pos h2] at h; cases h
  rw [secE, if_neg h1] at h
  rcases split0E (p := secP g mark) (b := b) with ⟨_, h3, h4⟩ | ⟨h3, _⟩
  · obtain ⟨a1, a2, _⟩ := sec_yes (mark := mark) (g := g) (b := b) (most := most) (by omega) h
    exact ⟨h3, a1, a2, h4⟩
  · exact absurd h h3
theorem sec_load {g mark most : Int} {b : List (BitVec 8)} (h : secE g mark most b = 0) (more : List PS) : slotOK (pagesOf okS valS (secR g mark most b ++ more)) = true ∧ slotB (pagesOf okS valS (secR g mark most b ++ more)) = b ∧ slotG (pagesOf okS valS (secR g mark most b ++ more)) = g := by
  obtain ⟨h1, h2, h3, h4⟩ := sec_is h
  obtain ⟨g1, g2⟩ := secL_good h1
  rw [h3, pagesOf_app g1, g2]
  have hn := sp_pos h4
  have h5 : allPages (splitP (secP g mark) false b (parts (b.length : Int)).toNat) = true := by
    simp only [splitOK, Bool.and_eq_true] at h1
    exact h1.2
  obtain ⟨j1, j2, j3⟩ := split_join (p := secP g mark) (nil := false) (b := b) (more := pagesOf okS valS more) h4 h5
  have hl : 0 < (splitP (secP g mark) false b (secN b) ++ pagesOf okS valS more).length := by
    rw [List.length_append, splitP_len]; have := hn.2.1; unfold secN; omega
  have hz : (splitP (secP g mark) false b (secN b) ++ pagesOf okS valS more)[0] = pageAt (secP g mark) false b (parts (b.length : Int)) 0 := by
    have h6 : 0 < secN b := hn.2.1
    rw [List.getElem_append_left (by rw [splitP_len]; exact h6), splitP_get h6]
  obtain ⟨e1, e2, e3⟩ := slot_t hl j1 ⟨by rw [hz]; rfl, by rw [hz]; rfl⟩
  exact ⟨e1, by rw [e2]; exact j2, by rw [e3, hz]; rfl⟩
def aw : List (BitVec 8) := [7#8]
theorem aw_E : secE 3 2 4 aw = 0 := by
  have h1 : splitOK (secP 3 2) aw = true := by decide
  have h2 : parts (aw.length : Int) = 1 := by decide
  rw [secE, h2, if_neg (by decide), splitE, h2, h1]; rfl
theorem aw_len : (secR 3 2 4 aw).length = 1 := by
  rw [(sec_is aw_E).2.2.1, secL_len]; decide
theorem aw_sm : ∀ x ∈ secR 3 2 4 aw, x.2.length ≤ 140737488355000 ∧ (x.1 = true → x.2 = []) := fun x hx => by
  rw [(sec_is aw_E).2.2.1] at hx
  obtain ⟨q, hq, rfl⟩ := List.mem_map.1 hx
  obtain ⟨i, hi, rfl⟩ := List.mem_iff_getElem.1 hq
  have hi2 : i < secN aw := by simpa [splitP_len] using hi
  rw [splitP_get hi2]
  have := pgPut_len (splitOK_at (nil := false) (sec_is aw_E).1 hi2)
  exact ⟨by show (pgPut _).length ≤ _; omega, fun h => by cases h⟩
theorem aw_mark : markOf okS valS (secR 3 2 4 aw) = 2 := by
  have hk : pageOK (pageAt (secP 3 2) false aw 1 0) = true := by decide
  obtain ⟨e1, e2⟩ := secOf_good hk
  have e : secR 3 2 4 aw = [secOf (pageAt (secP 3 2) false aw 1 0)] := by
    rw [(sec_is aw_E).2.2.1]; rfl
  rw [e]
  simp only [markOf, List.foldl_cons, List.foldl_nil, e1, e2, if_true]
  rfl
set_option maxHeartbeats 4000000 in
set_option maxRecDepth 100000 in
theorem good_awake  : Good Try.prog 18 [] [] [(.b true, false)] [] := by
  refine good_of_body4 42 Try.func18 rfl rfl rfl (by simp) (by simp) (by simp [noPtrL, noPtr]) (by rfl) ?_
  intro s m ha hr hv hG
  clear ha
  refine AW.seq ?_
  refine AW.region (cfg := cfg) ?_
  iterate 1 (apply aops_step (by decide) rfl; · (intro K hK; simp (disch := first | omega | decide) only [go_sem, cellsOf_base]; exact hK _))
  refine aops_nil ?_
  refine AW.seq ?_
  obtain ⟨w1, w2, w3, w4⟩ := sec_is aw_E
  obtain ⟨w5, w6, w7⟩ := sec_load aw_E []
  rw [List.append_nil] at w5 w6 w7
  have w8 := aw_E
  have w9 := aw_mark
  have w10 : (((secR 3 2 4 aw).length : Nat) : Int) = 1 := by rw [aw_len]; rfl
  have w11 : ((aw.length : Nat) : Int) = 1 := rfl
  refine AW.region (cfg := cfg) ?_
  apply aops_step (by decide) rfl
  · intro K hK
    rw [act_bs el22 ti5]
    (simp [-List.map_take, -List.map_drop, -BitVec.toNat_ofInt, -BitVec.ofInt_natCast, -BitVec.toNat_setWidth, -BitVec.toNat_ushiftRight, -BitVec.toNat_umod, -BitVec.toNat_udiv, go_sem, elems_v, cellishAV, Value.oneCell', isAggAV, partsOf, TI.z, TI.mk1, w2, w5, w6, w7, w8, w9, w10, w11]; exact hK _)
  apply aops_step (by decide) rfl
  · intro K hK
    simp (disch := first | omega | decide) only [go_sem, w2, w5, w6, w7, w8, w9, w10, w11, act_build_t ti45 pl45, List.map, cellsOf_base]
    simp [-List.map_take, -List.map_drop, fillL, okOne, cellishAV, Value.oneCell', cellsL, cellsOf, setAt, M.bind, Mwp, mset_same, Obj.isArr]
    exact hK _
  apply aops_step (by decide) rfl
  · intro K hK
    simp (disch := first | omega | decide) only [go_sem, w2, w5, w6, w7, w8, w9, w10, w11, act_call, List.map, cellsOf_base]
    apply mwp_call_r rfl rfl rfl
    · intro Q hQ
      ((try simp only [opn_agg, opn_own, opn_v]); (try simp only [List.drop_zero, List.drop_succ_cons, List.take_succ_cons, List.take_zero]); (repeat (first | rw [mwp_reifyL_agg] | rw [mwp_reifyL_v] | rw [mwp_reifyL_arr (by simp (disch := first | omega | decide) only [go_sem, w2, w5, w6, w7, w8, w9, w10, w11, cellsOf_base]; rfl)] | rw [mwp_reifyL_nil])); (repeat (rw [sub_full (by rfl)])); exact hQ)
    · exact good_Sectors 3 2 4 false aw (by decide) (by simp)
    · simp [-List.map_take, -List.map_drop, -List.map_append, -List.map_replicate, -List.reduceReplicate, noPtrL, noPtr, noPtrL_bsl, noPtrL_map, sub]
    · simp (disch := first | omega | decide) only [go_sem, w2, w5, w6, w7, w8, w9, w10, w11, cellsOf_base]
      exact hK _
  iterate 5 (apply aops_step (by decide) rfl; · (intro K hK; simp (disch := first | omega | decide) only [go_sem, w2, w5, w6, w7, w8, w9, w10, w11, cellsOf_base]; exact hK _))
  refine aops_nil ?_
  refine AW.seq ?_
  refine AW.region (cfg := cfg) ?_
  iterate 1 (apply aops_step (by decide) rfl; · (intro K hK; simp (disch := first | omega | decide) only [go_sem, w2, w5, w6, w7, w8, w9, w10, w11, cellsOf_base]; exact hK _))
  apply aops_step (by decide) rfl
  · intro K hK
    simp (disch := first | omega | decide) only [go_sem, w2, w5, w6, w7, w8, w9, w10, w11, act_call, List.map, cellsOf_base]
    apply mwp_call_r rfl rfl rfl
    · intro Q hQ
      (simp (disch := first | omega | decide) only [go_sem, w2, w5, w6, w7, w8, w9, w10, w11, peekL, reifyL_nil, reifyL_cons, reify_v, cellsOf_base]; (exact hQ))
    · exact good_Load false (secR 3 2 4 aw) (by rw [aw_len]; omega) aw_sm
    · simp [-List.map_take, -List.map_drop, -List.map_append, -List.map_replicate, -List.reduceReplicate, noPtrL, noPtr, noPtrL_bsl, noPtrL_map, sub]
    · simp (disch := first | omega | decide) only [go_sem, w2, w5, w6, w7, w8, w9, w10, w11, cellsOf_base]
      exact hK _
  iterate 3 (apply aops_step (by decide) rfl; · (intro K hK; simp (disch := first | omega | decide) only [go_sem, w2, w5, w6, w7, w8, w9, w10, w11, cellsOf_base]; exact hK _))
  apply aops_step (by decide) rfl
  · intro K hK
    simp (disch := first | omega | decide) only [go_sem, w2, w5, w6, w7, w8, w9, w10, w11, act_alloc_t ti45, List.map, cellsOf_base]
    exact hK _
  apply aops_step0 rfl
  · intro K hK
    simp (disch := first | omega | decide) only [go_sem, w2, w5, w6, w7, w8, w9, w10, w11, act_store_t ti45, List.map, cellsOf_base]
    rw [mwp_store_c (by simp (disch := first | omega | decide) only [go_sem, w2, w5, w6, w7, w8, w9, w10, w11, cellsOf_base]; rfl) (by rfl) (by rfl) (by rfl) (by simp)]
    try simp only [setAt, cellsL, cellsOf_agg, cellsOf_base, List.map_cons, List.map_nil, List.set_cons_zero, List.set_cons_succ, Nat.reduceAdd, Nat.zero_add, hG]
    exact hK _
  iterate 1 (apply aops_step (by decide) rfl; · (intro K hK; simp (disch := first | omega | decide) only [go_sem, w2, w5, w6, w7, w8, w9, w10, w11, cellsOf_base]; exact hK _))
  refine aops_nil ?_
  refine AW.seq ?_
  refine AW.region (cfg := cfg) ?_
  iterate 11 (apply aops_step (by decide) rfl; · (intro K hK; simp (disch := first | omega | decide) only [go_sem, w2, w5, w6, w7, w8, w9, w10, w11, List.map, List.length_map, aops_len u47, cellsOf_base]; exact hK _))
  apply aops_step (by decide) rfl
  · intro K hK
    simp (disch := first | omega | decide) only [go_sem, w2, w5, w6, w7, w8, w9, w10, w11, act_fieldAddr_t fo45_0, List.map, cellsOf_base]
    rw [mwp_fieldAddr_b (by simp (disch := first | omega | decide) only [go_sem, w2, w5, w6, w7, w8, w9, w10, w11, cellsOf_base]; rfl)]
    exact hK _
  apply aops_step (by decide) rfl
  · intro K hK
    simp (disch := first | omega | decide) only [go_sem, w2, w5, w6, w7, w8, w9, w10, w11, act_load_t ti3, List.map, cellsOf_base]
    rw [mwp_load_b1 (by simp (disch := first | omega | decide) only [go_sem, w2, w5, w6, w7, w8, w9, w10, w11, cellsOf_base]; rfl) (by rfl)]
    exact hK _
  iterate 3 (apply aops_step (by decide) rfl; · (intro K hK; simp (disch := first | omega | decide) only [go_sem, w2, w5, w6, w7, w8, w9, w10, w11, cellsOf_base]; exact hK _))
  apply aops_step (by decide) rfl
  · intro K hK
    simp (disch := first | omega | decide) only [go_sem, w2, w5, w6, w7, w8, w9, w10, w11, act_fieldAddr_t fo45_1, List.map, cellsOf_base]
    rw [mwp_fieldAddr_b (by simp (disch := first | omega | decide) only [go_sem, w2, w5, w6, w7, w8, w9, w10, w11, cellsOf_base]; rfl)]
    exact hK _
  apply aops_step (by decide) rfl
  · intro K hK
    simp (disch := first | omega | decide) only [go_sem, w2, w5, w6, w7, w8, w9, w10, w11, act_load_t ti22, List.map, cellsOf_base]
    rw [mwp_load_b1 (by simp (disch := first | omega | decide) only [go_sem, w2, w5, w6, w7, w8, w9, w10, w11, cellsOf_base]; rfl) (by rfl)]
    exact hK _
  iterate 5 (apply aops_step (by decide) rfl; · (intro K hK; simp (disch := first | omega | decide) only [go_sem, w2, w5, w6, w7, w8, w9, w10, w11, List.map, List.length_map, aops_len u22, cellsOf_base]; exact hK _))
  apply aops_step (by decide) rfl
  · intro K hK
    simp (disch := first | omega | decide) only [go_sem, w2, w5, w6, w7, w8, w9, w10, w11, act_call, List.map, cellsOf_base]
    apply mwp_call_s rfl rfl rfl
    · intro Q hQ
      (simp (disch := first | omega | decide) only [go_sem, w2, w5, w6, w7, w8, w9, w10, w11, peekL, reifyL_nil, reifyL_cons, reify_v, cellsOf_base]; (exact hQ))
    · exact good_Mark false (secR 3 2 4 aw) (by rw [aw_len]; omega) aw_sm
    · simp [-List.map_take, -List.map_drop, -List.map_append, -List.map_replicate, -List.reduceReplicate, noPtrL, noPtr, noPtrL_bsl, noPtrL_map, sub]
    · rfl
    · exact hK _
  iterate 3 (apply aops_step (by decide) rfl; · (intro K hK; simp (disch := first | omega | decide) only [go_sem, w2, w5, w6, w7, w8, w9, w10, w11, cellsOf_base]; exact hK _))
  refine aops_nil ?_
  refine AW.ret ?_
  refine ⟨.inr rfl, ?_⟩
  apply Exists.intro
  refine leaves_tmp1 0 rfl ?_ (by rfl)
  simp (disch := first | omega | decide) only [go_sem, w2, w5, w6, w7, w8, w9, w10, w11, cellsOf_base]
  all_goals first | done | rfl | trace_state

end Go.Vai.S7
