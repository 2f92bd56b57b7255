import Derived.Test.YtompjoadhhjddaabCh5
namespace Go.Vai.C
open Go.Proofs Go.Vai Go.Vai.G Go.Vai.L Go.Vai.O
set_option linter.unusedSimpArgs false
set_option linter.unusedVariables false

def cw : Ch := ⟨3, lsa0, 3, 0⟩
theorem cw_put : putOK [cw] = true ∧ putS [cw] = putB [cw] ∧ putE [cw] = 0 := by
  have h : putOK [cw] = true := by decide
  exact ⟨h, put_yes h⟩
theorem cw_len : (putB [cw]).length = 6 := by decide
theorem cw_get : chGet (putB [cw]) = some [cw] := chGet_back (xs := [cw]) (by decide) (by decide)
theorem cw_n : cw.n = 3 := rfl
theorem get_way (l : List (BitVec 8)) : chGet l = none ∨ ∃ xs, chGet l = some xs := by cases chGet l <;> simp
theorem ok_small {c : Ch} (h : chOK c = true) : c.l.ls.length ≤ 16 := by
  rcases ch_kind h with h | h | h | h
  · exact (lsa_bd h.2.1).2.2.1
  · rw [(bare_l h.2.1).2.2]; simp
  · rw [(bare_l h.2.1).2.2]; simp
  · rw [(bare_l h.2.1).2.2]; simp
theorem all_small {xs : List Ch} (h : allCh xs = true) : ∀ c ∈ xs, c.l.ls.length ≤ 9223372036854775807 := fun c hc => by
  have := ok_small (List.all_eq_true.1 h c hc); omega
theorem chEq_refl (c : Ch) : chEq c c = true := by simp [chEq, lsaEq]
theorem eqAll_refl {l : List Ch} : eqAll chEq l l = true := by
  rw [eqAll, decide_eq_true rfl, Bool.true_and, List.all_eq_true]
  intro x hx
  obtain ⟨i, hi, rfl⟩ := List.mem_iff_getElem.1 hx
  rw [List.getElem_zip]; exact chEq_refl _
theorem putB_len {xs : List Ch} (h : allCh xs = true) (h2 : xs.length ≤ 50) : (putB xs).length ≤ 4551 := by
  have := chsB_len (l := xs) (fun c hc => List.all_eq_true.1 h c hc)
  rw [putB, List.length_append, numR_length]
  have h3 : 91 * xs.length ≤ 91 * 50 := Nat.mul_le_mul_left _ h2
  omega
set_option maxHeartbeats 4000000 in
set_option maxRecDepth 100000 in
theorem good_awake  : Good Try.prog 42 [] [] [(.b true, false)] [] := by
  refine good_of_body4 39 Try.func42 rfl rfl rfl (by simp) (by simp) (by simp [noPtrL, noPtr]) (by rfl) ?_
  intro s m ha hr hv hG
  clear ha
  refine AW.seq ?_
  refine AW.region (cfg := cfg) ?_
  iterate 1 (apply aops_step (by decide) rfl; · (intro K hK; simp (disch := first | omega | decide) only [go_sem, cellsOf_ch, cellsOf_lsa, cw_n]; exact hK _))
  refine aops_nil ?_
  refine AW.seq ?_
  obtain ⟨w1, w2, w3⟩ := cw_put
  obtain ⟨w4, w5, w6⟩ := opt_yes cw_get
  have w7 : (((putB [cw]).length : Nat) : Int) = 6 := by rw [cw_len]; rfl
  refine AW.region (cfg := cfg) ?_
  apply aops_step (by decide) rfl
  · intro K hK
    simp (disch := first | omega | decide) only [go_sem, w1, w2, w3, w4, w5, w6, w7, act_build_t ti74 pl74, List.map, cellsOf_ch, cellsOf_lsa, cw_n]
    simp [-List.map_take, -List.map_drop, fillL, okOne, cellishAV, Value.oneCell', cellsL, cellsOf, setAt, M.bind, Mwp, mset_same, Obj.isArr]
    exact hK _
  apply aops_step (by decide) rfl
  · intro K hK
    rw [act_bs el65 ti74]
    (simp [-List.map_take, -List.map_drop, -BitVec.toNat_ofInt, -BitVec.ofInt_natCast, -BitVec.toNat_setWidth, -BitVec.toNat_ushiftRight, -BitVec.toNat_umod, -BitVec.toNat_udiv, go_sem, elems_v, cellishAV, Value.oneCell', isAggAV, partsOf, TI.z, TI.mk1, w1, w2, w3, w4, w5, w6, w7]; exact hK _)
  apply aops_step (by decide) rfl
  · intro K hK
    simp (disch := first | omega | decide) only [go_sem, w1, w2, w3, w4, w5, w6, w7, act_call, List.map, cellsOf_ch, cellsOf_lsa, cw_n]
    apply mwp_call_r rfl rfl rfl
    · intro Q hQ
      (simp (disch := first | omega | decide) only [go_sem, w1, w2, w3, w4, w5, w6, w7, peekL, reifyL_nil, reifyL_cons, reify_v, cellsOf_ch, cellsOf_lsa, cw_n]; ((((rw [mwp_reify_own (by simp (disch := first | omega | decide) only [go_sem, w1, w2, w3, w4, w5, w6, w7, peekL, reifyL_nil, reifyL_cons, reify_v, cellsOf_ch, cellsOf_lsa, cw_n]; rfl)]); (try rw [sub_full (by rfl)])); exact hQ)))
    · exact (good_PutC false [cw] (by simp) (by intro c hc; rcases List.mem_cons.1 hc with rfl | hc; decide; cases hc)).lend2
    · simp [-List.map_take, -List.map_drop, -List.map_append, -List.map_replicate, -List.reduceReplicate, noPtrL, noPtr, noPtrL_bsl, noPtrL_map, sub]
    · simp (disch := first | omega | decide) only [go_sem, w1, w2, w3, w4, w5, w6, w7, cellsOf_ch, cellsOf_lsa, cw_n]
      exact hK _
  iterate 5 (apply aops_step (by decide) rfl; · (intro K hK; simp (disch := first | omega | decide) only [go_sem, w1, w2, w3, w4, w5, w6, w7, cellsOf_ch, cellsOf_lsa, cw_n]; exact hK _))
  refine aops_nil ?_
  refine AW.seq ?_
  refine AW.region (cfg := cfg) ?_
  iterate 1 (apply aops_step (by decide) rfl; · (intro K hK; simp (disch := first | omega | decide) only [go_sem, w1, w2, w3, w4, w5, w6, w7, cellsOf_ch, cellsOf_lsa, cw_n]; exact hK _))
  apply aops_step (by decide) rfl
  · intro K hK
    simp (disch := first | omega | decide) only [go_sem, w1, w2, w3, w4, w5, w6, w7, act_call, List.map, cellsOf_ch, cellsOf_lsa, cw_n]
    apply mwp_call_r rfl rfl rfl
    · intro Q hQ
      (simp (disch := first | omega | decide) only [go_sem, w1, w2, w3, w4, w5, w6, w7, peekL, reifyL_nil, reifyL_cons, reify_v, cellsOf_ch, cellsOf_lsa, cw_n]; (exact hQ))
    · exact good_GetC false (putB [cw]) (by rw [cw_len]; omega) (by simp)
    · simp [-List.map_take, -List.map_drop, -List.map_append, -List.map_replicate, -List.reduceReplicate, noPtrL, noPtr, noPtrL_bsl, noPtrL_map, sub]
    · simp (disch := first | omega | decide) only [go_sem, w1, w2, w3, w4, w5, w6, w7, cellsOf_ch, cellsOf_lsa, cw_n]
      exact hK _
  iterate 5 (apply aops_step (by decide) rfl; · (intro K hK; simp (disch := first | omega | decide) only [go_sem, w1, w2, w3, w4, w5, w6, w7, cellsOf_ch, cellsOf_lsa, cw_n]; exact hK _))
  refine aops_nil ?_
  refine AW.seq ?_
  refine AW.region (cfg := cfg) ?_
  iterate 18 (apply aops_step (by decide) rfl; · (intro K hK; simp (disch := first | omega | decide) only [go_sem, w1, w2, w3, w4, w5, w6, w7, List.map, List.length_map, aops_len u25, aops_len u65, cellsOf_ch, cellsOf_lsa, cw_n]; exact hK _))
  apply aops_step (by decide) rfl
  · intro K hK
    simp (disch := first | omega | decide) only [go_sem, w1, w2, w3, w4, w5, w6, w7, act_indexAddr_s u65 ti74, List.map, cellsOf_ch, cellsOf_lsa, cw_n]
    skip
    exact hK _
  apply aops_step (by decide) rfl
  · intro K hK
    simp (disch := first | omega | decide) only [go_sem, w1, w2, w3, w4, w5, w6, w7, act_fieldAddr_t fo74_2, List.map, cellsOf_ch, cellsOf_lsa, cw_n]
    skip
    exact hK _
  apply aops_step (by decide) rfl
  · intro K hK
    simp (disch := first | omega | decide) only [go_sem, w1, w2, w3, w4, w5, w6, w7, act_load_t ti3, List.map, cellsOf_ch, cellsOf_lsa, cw_n]
    rw [mwp_load_i1 (by rfl)]
    exact hK _
  iterate 3 (apply aops_step (by decide) rfl; · (intro K hK; simp (disch := first | omega | decide) only [go_sem, w1, w2, w3, w4, w5, w6, w7, cellsOf_ch, cellsOf_lsa, cw_n]; exact hK _))
  refine aops_nil ?_
  refine AW.ret ?_
  refine ⟨.inr rfl, ?_⟩
  apply Exists.intro
  refine leaves_tmp1 0 rfl ?_ (by rfl)
  simp (disch := first | omega | decide) only [go_sem, w1, w2, w3, w4, w5, w6, w7, cellsOf_ch, cellsOf_lsa, cw_n]
  all_goals rfl

end Go.Vai.C
