import Derived.Test.YtblgcekomnnfmaagPage3
namespace Go.Vai.G
open Go.Proofs Go.Vai Go.Vai.L Go.Vai.O Go.Vai.U Go.Vai.Z
set_option linter.unusedSimpArgs false
set_option linter.unusedVariables false

open Go.Vai.Z (sealS okO okV body seal_open sealS_len ckB)
theorem pg_n {l : List (BitVec 8)} (h : l.length = 512) : ((l.getD 18 default).toNat : Int) * 256 + ((l.getD 19 default).toNat : Int) = pgN l := by
  rw [pgN, rV_is (by omega) (by omega), show (2 : Int).toNat = 2 from rfl, num2 (by simp; omega)]
  simp [List.getD_eq_getElem?_getD]
theorem pg_4 {l : List (BitVec 8)} {k : Nat} (h : k + 4 ≤ l.length) : numV ((l.drop k).take 4) = at4 l k := by
  rw [at4, rV_is (by omega) (by omega)]; rfl
theorem pg_cut {l : List (BitVec 8)} {v : Int} (h : 0 ≤ v) : (l.take (20 + v).toNat).drop 20 = (l.drop 20).take v.toNat := by
  have := cut_take (l := l) (a := 20) (v := v) h
  exact this
theorem pg_end (l : List (BitVec 8)) : AV.agg [AV.i IntKind.i64 ((l[3]?.getD default).toNat : Int), i64 (at4 l 4), i64 (at4 l 8), i64 (at4 l 12), AV.i IntKind.i64 ((l[16]?.getD default).toNat : Int), AV.i IntKind.i64 ((l[17]?.getD default).toNat : Int), AV.sl 1 false (List.take (min (pgN l).toNat (l.length - 20)) (List.take (pgN l).toNat (List.drop 20 (List.map u8 l))))] = pageA (pgP l) := by
  have h := List.take_of_length_le (i := min (pgN l).toNat (l.length - 20)) (l := List.take (pgN l).toNat (List.drop 20 (List.map u8 l))) (by simp)
  rw [h, ← List.map_drop, ← List.map_take]
  simp only [pageA, pgP, at1, List.getD_eq_getElem?_getD]
theorem good_no1 {l : List (BitVec 8)} (h : ¬ (l.length : Int) = 512) : pgGood l = false := by
  have : decide (l.length = 512) = false := decide_eq_false (by omega)
  rw [pgGood, this, Bool.false_and]
theorem good_no2 {l : List (BitVec 8)} (h : pgN l > 488) : pgGood l = false := by
  have : decide (pgN l ≤ 488) = false := decide_eq_false (by omega)
  rw [pgGood, this, Bool.false_and, Bool.and_false]
theorem good_is {l : List (BitVec 8)} (h1 : l.length = 512) (h2 : ¬ pgN l > 488) : pgGood l = (pageOK (pgP l) && decide (pgPut (pgP l) = l)) := by
  rw [pgGood, decide_eq_true h1, decide_eq_true (show pgN l ≤ 488 by omega), Bool.true_and, Bool.true_and]
theorem pgV_no {l : List (BitVec 8)} (h : pgGood l = false) : pgV l = page0 := by rw [pgV, h]; rfl
theorem pgV_is {l : List (BitVec 8)} (h : pgGood l = true) : pgV l = pgP l := by rw [pgV, h]; rfl
set_option maxHeartbeats 4000000 in
set_option maxRecDepth 100000 in
theorem good_refGetP (nil : Bool) (l : List (BitVec 8)) (hl : l.length ≤ 140737488355000) (hz : nil = true → l = []) : Good Try.prog 23 [(.sl 1 nil (bsl l), false)] [] [(pageA (pgV l), false), (.b (pgGood l), false)] [] := by
  refine good_of_body2 63 Try.func23 rfl rfl rfl (by simp) ?_
  intro s m ha hr hv hG
  have f0 : s 0 = .v (.sl 1 nil (bsl l)) := ha 0 _ rfl
  clear ha
  refine AW.seq ?_
  refine AW.region (cfg := cfg) ?_
  apply aops_step (by decide) rfl
  · intro K hK
    simp (disch := first | omega | decide) only [go_sem, f0, act_alloc_t ti58, List.map, cellsOf_page, getD_get, Int.reduceToNat, Bool.not_true, Bool.not_false, Bool.true_or, Bool.false_or]
    exact hK _
  iterate 1 (apply aops_step (by decide) rfl; · (intro K hK; simp (disch := first | omega | decide) only [go_sem, f0, cellsOf_page, getD_get, Int.reduceToNat, Bool.not_true, Bool.not_false, Bool.true_or, Bool.false_or]; exact hK _))
  refine aops_nil ?_
  refine AW.seq ?_
  refine AW.seq ?_
  refine AW.region (cfg := cfg) ?_
  iterate 3 (apply aops_step (by decide) rfl; · (intro K hK; simp (disch := first | omega | decide) only [go_sem, f0, List.map, List.length_map, aops_len u22, cellsOf_page, getD_get, Int.reduceToNat, Bool.not_true, Bool.not_false, Bool.true_or, Bool.false_or]; exact hK _))
  refine aops_nil ?_
  apply AW.cond
  · simp (disch := first | omega | decide) only [go_sem, f0, cellsOf_page, getD_get, Int.reduceToNat, Bool.not_true, Bool.not_false, Bool.true_or, Bool.false_or]; rfl
  case ht =>
    intro hb
    try simp only [Bool.or_eq_true, Bool.and_eq_true, Bool.or_eq_false_iff, Bool.and_eq_false_iff, decide_eq_true_eq, decide_eq_false_iff_not] at hb
    have hbt8 := hb
    refine AW.seq ?_
    refine AW.region (cfg := cfg) ?_
    apply aops_step (by decide) rfl
    · intro K hK
      simp (disch := first | omega | decide) only [go_sem, f0, act_build_t ti58 pl58, List.map, cellsOf_page, getD_get, Int.reduceToNat, Bool.not_true, Bool.not_false, Bool.true_or, Bool.false_or]
      simp [-List.map_take, -List.map_drop, fillL, okOne, cellishAV, Value.oneCell', cellsL, cellsOf, setAt, M.bind, Mwp, mset_same, Obj.isArr]
      exact hK _
    apply aops_step0 rfl
    · intro K hK
      simp (disch := first | omega | decide) only [go_sem, f0, act_store_t ti58, List.map, cellsOf_page, getD_get, Int.reduceToNat, Bool.not_true, Bool.not_false, Bool.true_or, Bool.false_or]
      rw [mwp_store_c (by simp (disch := first | omega | decide) only [go_sem, f0, cellsOf_page, getD_get, Int.reduceToNat, Bool.not_true, Bool.not_false, Bool.true_or, Bool.false_or]; rfl) (by rfl) (by rfl) (by rfl) (by simp)]
      try simp only [setAt, cellsL, cellsOf_agg, cellsOf_base, List.map_cons, List.map_nil, List.set_cons_zero, List.set_cons_succ, Nat.reduceAdd, Nat.zero_add, hG]
      exact hK _
    iterate 1 (apply aops_step (by decide) rfl; · (intro K hK; simp (disch := first | omega | decide) only [go_sem, f0, cellsOf_page, getD_get, Int.reduceToNat, Bool.not_true, Bool.not_false, Bool.true_or, Bool.false_or]; exact hK _))
    refine aops_nil ?_
    refine AW.ret ?_
    refine ⟨.inr rfl, ?_⟩
    refine leaves_mwp2 (rs := [.cell 2 58, .tmp 3]) rfl ?_
    simp (config := {failIfUnchanged := false}) [giveL, srcOne, rehome, freezeN, sub, ti58, upd, opn, aLoad, loadL, giveOne, reify, reifyL, readL, readOne, Mwp, M.bind, Mem.set, setAt, cellsL, hG, f0]
    all_goals (have z : pgGood l = false := good_no1 (by omega); rw [pgV_no z, z]; exact ⟨rfl, rfl⟩)
  case hf =>
    intro hb
    try simp only [Bool.or_eq_true, Bool.and_eq_true, Bool.or_eq_false_iff, Bool.and_eq_false_iff, decide_eq_true_eq, decide_eq_false_iff_not] at hb
    have hbt8 := hb
    refine AW.skip ?_
    refine AW.seq ?_
    have h512 : l.length = 512 := by omega
    have hn := pg_n h512
    have n0 := rV_range l 18 false 2
    refine AW.draw (cfg := cfg) (by kernel_rfl) (by kernel_rfl) (by kernel_rfl) ?_
    iterate 1 (apply adraw_step rfl; · (intro K hK; simp (disch := first | omega | decide) only [go_sem, f0, hn, cellsOf_page, getD_get, Int.reduceToNat, Bool.not_true, Bool.not_false, Bool.true_or, Bool.false_or]; exact hK))
    apply adraw_step rfl
    · intro K hK
      simp (disch := first | omega | decide) only [go_sem, f0, hn, act_indexAddr_s u22 ti5, List.map, cellsOf_page, getD_get, Int.reduceToNat, Bool.not_true, Bool.not_false, Bool.true_or, Bool.false_or]
      skip
      exact hK
    apply adraw_step rfl
    · intro K hK
      simp (disch := first | omega | decide) only [go_sem, f0, hn, act_load_t ti5, List.map, cellsOf_page, getD_get, Int.reduceToNat, Bool.not_true, Bool.not_false, Bool.true_or, Bool.false_or]
      skip
      exact hK
    iterate 3 (apply adraw_step rfl; · (intro K hK; simp (disch := first | omega | decide) only [go_sem, f0, hn, act_convI u5 u3, cellsOf_page, getD_get, Int.reduceToNat, Bool.not_true, Bool.not_false, Bool.true_or, Bool.false_or]; exact hK))
    apply adraw_step rfl
    · intro K hK
      simp (disch := first | omega | decide) only [go_sem, f0, hn, act_indexAddr_s u22 ti5, List.map, cellsOf_page, getD_get, Int.reduceToNat, Bool.not_true, Bool.not_false, Bool.true_or, Bool.false_or]
      skip
      exact hK
    apply adraw_step rfl
    · intro K hK
      simp (disch := first | omega | decide) only [go_sem, f0, hn, act_load_t ti5, List.map, cellsOf_page, getD_get, Int.reduceToNat, Bool.not_true, Bool.not_false, Bool.true_or, Bool.false_or]
      skip
      exact hK
    iterate 3 (apply adraw_step rfl; · (intro K hK; simp (disch := first | omega | decide) only [go_sem, f0, hn, act_convI u5 u3, cellsOf_page, getD_get, Int.reduceToNat, Bool.not_true, Bool.not_false, Bool.true_or, Bool.false_or]; exact hK))
    refine adraw_nil (by kernel_rfl) ?_
    refine AW.seq ?_
    refine AW.seq ?_
    refine AW.region (cfg := cfg) ?_
    iterate 2 (apply aops_step (by decide) rfl; · (intro K hK; simp (disch := first | omega | decide) only [go_sem, f0, hn, cellsOf_page, getD_get, Int.reduceToNat, Bool.not_true, Bool.not_false, Bool.true_or, Bool.false_or]; exact hK _))
    refine aops_nil ?_
    apply AW.cond
    · simp (disch := first | omega | decide) only [go_sem, f0, hn, cellsOf_page, getD_get, Int.reduceToNat, Bool.not_true, Bool.not_false, Bool.true_or, Bool.false_or]; rfl
    case ht =>
      intro hb
      try simp only [Bool.or_eq_true, Bool.and_eq_true, Bool.or_eq_false_iff, Bool.and_eq_false_iff, decide_eq_true_eq, decide_eq_false_iff_not] at hb
      have hbt21 := hb
      refine AW.seq ?_
      refine AW.region (cfg := cfg) ?_
      apply aops_step (by decide) rfl
      · intro K hK
        simp (disch := first | omega | decide) only [go_sem, f0, hn, act_build_t ti58 pl58, List.map, cellsOf_page, getD_get, Int.reduceToNat, Bool.not_true, Bool.not_false, Bool.true_or, Bool.false_or]
        simp [-List.map_take, -List.map_drop, fillL, okOne, cellishAV, Value.oneCell', cellsL, cellsOf, setAt, M.bind, Mwp, mset_same, Obj.isArr]
        exact hK _
      apply aops_step0 rfl
      · intro K hK
        simp (disch := first | omega | decide) only [go_sem, f0, hn, act_store_t ti58, List.map, cellsOf_page, getD_get, Int.reduceToNat, Bool.not_true, Bool.not_false, Bool.true_or, Bool.false_or]
        rw [mwp_store_c (by simp (disch := first | omega | decide) only [go_sem, f0, hn, cellsOf_page, getD_get, Int.reduceToNat, Bool.not_true, Bool.not_false, Bool.true_or, Bool.false_or]; rfl) (by rfl) (by rfl) (by rfl) (by simp)]
        try simp only [setAt, cellsL, cellsOf_agg, cellsOf_base, List.map_cons, List.map_nil, List.set_cons_zero, List.set_cons_succ, Nat.reduceAdd, Nat.zero_add, hG]
        exact hK _
      iterate 1 (apply aops_step (by decide) rfl; · (intro K hK; simp (disch := first | omega | decide) only [go_sem, f0, hn, cellsOf_page, getD_get, Int.reduceToNat, Bool.not_true, Bool.not_false, Bool.true_or, Bool.false_or]; exact hK _))
      refine aops_nil ?_
      refine AW.ret ?_
      refine ⟨.inr rfl, ?_⟩
      refine leaves_mwp2 (rs := [.cell 2 58, .tmp 3]) rfl ?_
      simp (config := {failIfUnchanged := false}) [giveL, srcOne, rehome, freezeN, sub, ti58, upd, opn, aLoad, loadL, giveOne, reify, reifyL, readL, readOne, Mwp, M.bind, Mem.set, setAt, cellsL, hG, f0, hn]
      all_goals (have z : pgGood l = false := good_no2 (by omega); rw [pgV_no z, z]; exact ⟨rfl, rfl⟩)
    case hf =>
      intro hb
      try simp only [Bool.or_eq_true, Bool.and_eq_true, Bool.or_eq_false_iff, Bool.and_eq_false_iff, decide_eq_true_eq, decide_eq_false_iff_not] at hb
      have hbt21 := hb
      refine AW.skip ?_
      refine AW.seq ?_
      have hn2 : 0 ≤ pgN l ∧ pgN l ≤ 488 := ⟨n0.1, by omega⟩
      have e4 := pg_4 (l := l) (k := 4) (by omega)
      have e8 := pg_4 (l := l) (k := 8) (by omega)
      have e12 := pg_4 (l := l) (k := 12) (by omega)
      have e6 := pg_cut (l := l) hn2.1
      have e7 : (pgP l).b.length ≤ 488 := by (show ((l.drop 20).take (pgN l).toNat).length ≤ 488; simp; omega)
      refine AW.draw (cfg := cfg) (by kernel_rfl) (by kernel_rfl) (by kernel_rfl) ?_
      iterate 1 (apply adraw_step rfl; · (intro K hK; simp (disch := first | omega | decide) only [go_sem, f0, hn, e4, e8, e12, e6, cellsOf_page, getD_get, Int.reduceToNat, Bool.not_true, Bool.not_false, Bool.true_or, Bool.false_or]; exact hK))
      apply adraw_step rfl
      · intro K hK
        simp (disch := first | omega | decide) only [go_sem, f0, hn, e4, e8, e12, e6, act_indexAddr_s u22 ti5, List.map, cellsOf_page, getD_get, Int.reduceToNat, Bool.not_true, Bool.not_false, Bool.true_or, Bool.false_or]
        skip
        exact hK
      apply adraw_step rfl
      · intro K hK
        simp (disch := first | omega | decide) only [go_sem, f0, hn, e4, e8, e12, e6, act_load_t ti5, List.map, cellsOf_page, getD_get, Int.reduceToNat, Bool.not_true, Bool.not_false, Bool.true_or, Bool.false_or]
        skip
        exact hK
      iterate 3 (apply adraw_step rfl; · (intro K hK; simp (disch := first | omega | decide) only [go_sem, f0, hn, e4, e8, e12, e6, act_convI u5 u3, act_slice_s u22 ti5, cellsOf_page, getD_get, Int.reduceToNat, Bool.not_true, Bool.not_false, Bool.true_or, Bool.false_or]; exact hK))
      apply adraw_step rfl
      · intro K hK
        simp (disch := first | omega | decide) only [go_sem, f0, hn, e4, e8, e12, e6, act_call, List.map, cellsOf_page, getD_get, Int.reduceToNat, Bool.not_true, Bool.not_false, Bool.true_or, Bool.false_or]
        apply mwp_call_s rfl rfl rfl
        · intro Q hQ
          (simp (disch := first | omega | decide) only [go_sem, f0, hn, e4, e8, e12, e6, peekL, reifyL_nil, reifyL_cons, reify_v, cellsOf_page, getD_get, Int.reduceToNat, Bool.not_true, Bool.not_false, Bool.true_or, Bool.false_or]; (exact hQ))
        · exact good_number nil (l.drop 4) (by simp; omega) (by simp; omega)
        · simp [-List.map_take, -List.map_drop, -List.map_append, -List.map_replicate, -List.reduceReplicate, noPtrL, noPtr, noPtrL_bsl, noPtrL_map, sub]
        · rfl
        · exact hK
      iterate 2 (apply adraw_step rfl; · (intro K hK; simp (disch := first | omega | decide) only [go_sem, f0, hn, e4, e8, e12, e6, act_slice_s u22 ti5, cellsOf_page, getD_get, Int.reduceToNat, Bool.not_true, Bool.not_false, Bool.true_or, Bool.false_or]; exact hK))
      apply adraw_step rfl
      · intro K hK
        simp (disch := first | omega | decide) only [go_sem, f0, hn, e4, e8, e12, e6, act_call, List.map, cellsOf_page, getD_get, Int.reduceToNat, Bool.not_true, Bool.not_false, Bool.true_or, Bool.false_or]
        apply mwp_call_s rfl rfl rfl
        · intro Q hQ
          (simp (disch := first | omega | decide) only [go_sem, f0, hn, e4, e8, e12, e6, peekL, reifyL_nil, reifyL_cons, reify_v, cellsOf_page, getD_get, Int.reduceToNat, Bool.not_true, Bool.not_false, Bool.true_or, Bool.false_or]; (exact hQ))
        · exact good_number nil (l.drop 8) (by simp; omega) (by simp; omega)
        · simp [-List.map_take, -List.map_drop, -List.map_append, -List.map_replicate, -List.reduceReplicate, noPtrL, noPtr, noPtrL_bsl, noPtrL_map, sub]
        · rfl
        · exact hK
      iterate 2 (apply adraw_step rfl; · (intro K hK; simp (disch := first | omega | decide) only [go_sem, f0, hn, e4, e8, e12, e6, act_slice_s u22 ti5, cellsOf_page, getD_get, Int.reduceToNat, Bool.not_true, Bool.not_false, Bool.true_or, Bool.false_or]; exact hK))
      apply adraw_step rfl
      · intro K hK
        simp (disch := first | omega | decide) only [go_sem, f0, hn, e4, e8, e12, e6, act_call, List.map, cellsOf_page, getD_get, Int.reduceToNat, Bool.not_true, Bool.not_false, Bool.true_or, Bool.false_or]
        apply mwp_call_s rfl rfl rfl
        · intro Q hQ
          (simp (disch := first | omega | decide) only [go_sem, f0, hn, e4, e8, e12, e6, peekL, reifyL_nil, reifyL_cons, reify_v, cellsOf_page, getD_get, Int.reduceToNat, Bool.not_true, Bool.not_false, Bool.true_or, Bool.false_or]; (exact hQ))
        · exact good_number nil (l.drop 12) (by simp; omega) (by simp; omega)
        · simp [-List.map_take, -List.map_drop, -List.map_append, -List.map_replicate, -List.reduceReplicate, noPtrL, noPtr, noPtrL_bsl, noPtrL_map, sub]
        · rfl
        · exact hK
      iterate 1 (apply adraw_step rfl; · (intro K hK; simp (disch := first | omega | decide) only [go_sem, f0, hn, e4, e8, e12, e6, cellsOf_page, getD_get, Int.reduceToNat, Bool.not_true, Bool.not_false, Bool.true_or, Bool.false_or]; exact hK))
      apply adraw_step rfl
      · intro K hK
        simp (disch := first | omega | decide) only [go_sem, f0, hn, e4, e8, e12, e6, act_indexAddr_s u22 ti5, List.map, cellsOf_page, getD_get, Int.reduceToNat, Bool.not_true, Bool.not_false, Bool.true_or, Bool.false_or]
        skip
        exact hK
      apply adraw_step rfl
      · intro K hK
        simp (disch := first | omega | decide) only [go_sem, f0, hn, e4, e8, e12, e6, act_load_t ti5, List.map, cellsOf_page, getD_get, Int.reduceToNat, Bool.not_true, Bool.not_false, Bool.true_or, Bool.false_or]
        skip
        exact hK
      iterate 2 (apply adraw_step rfl; · (intro K hK; simp (disch := first | omega | decide) only [go_sem, f0, hn, e4, e8, e12, e6, act_convI u5 u3, cellsOf_page, getD_get, Int.reduceToNat, Bool.not_true, Bool.not_false, Bool.true_or, Bool.false_or]; exact hK))
      apply adraw_step rfl
      · intro K hK
        simp (disch := first | omega | decide) only [go_sem, f0, hn, e4, e8, e12, e6, act_indexAddr_s u22 ti5, List.map, cellsOf_page, getD_get, Int.reduceToNat, Bool.not_true, Bool.not_false, Bool.true_or, Bool.false_or]
        skip
        exact hK
      apply adraw_step rfl
      · intro K hK
        simp (disch := first | omega | decide) only [go_sem, f0, hn, e4, e8, e12, e6, act_load_t ti5, List.map, cellsOf_page, getD_get, Int.reduceToNat, Bool.not_true, Bool.not_false, Bool.true_or, Bool.false_or]
        skip
        exact hK
      iterate 1 (apply adraw_step rfl; · (intro K hK; simp (disch := first | omega | decide) only [go_sem, f0, hn, e4, e8, e12, e6, act_convI u5 u3, cellsOf_page, getD_get, Int.reduceToNat, Bool.not_true, Bool.not_false, Bool.true_or, Bool.false_or]; exact hK))
      apply adraw_step rfl
      · intro K hK
        rw [act_bs el22 ti5]
        (simp [-List.map_take, -List.map_drop, -BitVec.toNat_ofInt, -BitVec.ofInt_natCast, -BitVec.toNat_setWidth, -BitVec.toNat_ushiftRight, -BitVec.toNat_umod, -BitVec.toNat_udiv, go_sem, elems_v, cellishAV, Value.oneCell', isAggAV, partsOf, TI.z, TI.mk1, f0, hn, e4, e8, e12, e6]; exact hK)
      iterate 4 (apply adraw_step rfl; · (intro K hK; simp (disch := first | omega | decide) only [go_sem, f0, hn, e4, e8, e12, e6, act_slice_s u22 ti5, cellsOf_page, getD_get, Int.reduceToNat, Bool.not_true, Bool.not_false, Bool.true_or, Bool.false_or]; exact hK))
      apply adraw_step rfl
      · intro K hK
        simp (disch := first | omega | decide) only [go_sem, f0, hn, e4, e8, e12, e6, List.map, cellsOf_page, getD_get, Int.reduceToNat, Bool.not_true, Bool.not_false, Bool.true_or, Bool.false_or]
        apply mwp_append2 el22 ti5 u22
        case hpk => intro Q hQ; exact hQ
        case hs' => rfl
        case ho => simp (disch := first | omega | decide) only [go_sem, f0, hn, e4, e8, e12, e6, cellsOf_page, getD_get, Int.reduceToNat, Bool.not_true, Bool.not_false, Bool.true_or, Bool.false_or]; rfl
        case hsz => rfl
        case hhi => (simp; done)
        case hb => (simp [sub, roomB]; omega)
        case hy => (intro y hy; exact cells_map (k := 1) (fun _ => rfl) y hy)
        case k => (try simp only [List.nil_append, ← List.map_append, Bool.false_and]); exact hK
      apply adraw_step rfl
      · intro K hK
        simp (disch := first | omega | decide) only [go_sem, f0, hn, e4, e8, e12, e6, act_build_t ti58 pl58, List.map, cellsOf_page, getD_get, Int.reduceToNat, Bool.not_true, Bool.not_false, Bool.true_or, Bool.false_or]
        simp [-List.map_take, -List.map_drop, fillL, okOne, cellishAV, Value.oneCell', cellsL, cellsOf, setAt, M.bind, Mwp, mset_same, Obj.isArr]
        exact hK
      apply adraw_step rfl
      · intro K hK
        simp (disch := first | omega | decide) only [go_sem, f0, hn, e4, e8, e12, e6, act_alloc_t ti58, List.map, cellsOf_page, getD_get, Int.reduceToNat, Bool.not_true, Bool.not_false, Bool.true_or, Bool.false_or]
        exact hK
      apply adraw_step0 rfl
      · intro K hK
        simp (disch := first | omega | decide) only [go_sem, f0, hn, e4, e8, e12, e6, act_store_t ti58, List.map, cellsOf_page, getD_get, Int.reduceToNat, Bool.not_true, Bool.not_false, Bool.true_or, Bool.false_or]
        (refine mwp_store_gen (by simp (disch := first | omega | decide) only [go_sem, f0, hn, e4, e8, e12, e6, cellsOf_page, getD_get, Int.reduceToNat, Bool.not_true, Bool.not_false, Bool.true_or, Bool.false_or]; rfl) ?_; simp only [cellsL]; (try simp only [List.drop_zero, List.drop_succ_cons, List.take_succ_cons, List.take_zero]); (repeat (first | rw [mwp_settleL_v (by rfl)] | rw [mwp_settleL_own (by simp (disch := first | omega | decide) only [go_sem, f0, hn, e4, e8, e12, e6, cellsOf_page, getD_get, Int.reduceToNat, Bool.not_true, Bool.not_false, Bool.true_or, Bool.false_or]; rfl)])); rw [mwp_settleL_nil]; refine ⟨by simp (disch := first | omega | decide) only [go_sem, f0, hn, e4, e8, e12, e6, cellsOf_page, getD_get, Int.reduceToNat, Bool.not_true, Bool.not_false, Bool.true_or, Bool.false_or] <;> rfl, rfl, by simp, ?_⟩)
        try simp only [setAt, cellsL, cellsOf_agg, cellsOf_base, List.map_cons, List.map_nil, List.set_cons_zero, List.set_cons_succ, Nat.reduceAdd, Nat.zero_add, hG]
        exact hK
      refine adraw_nil (by kernel_rfl) ?_
      refine AW.seq ?_
      refine AW.seq ?_
      by_cases hsp : pageOK (pgP l) = true
      · have hd := decide_eq_true hsp
        have hso := hsp
        refine AW.region (cfg := cfg) ?_
        apply aops_step (by decide) rfl
        · intro K hK
          simp (disch := first | omega | decide) only [go_sem, f0, hn, e4, e8, e12, e6, hd, hso, act_load_t ti58, List.map, cellsOf_page, getD_get, Int.reduceToNat, Bool.not_true, Bool.not_false, Bool.true_or, Bool.false_or]
          rw [mwp_load_bs (by simp (disch := first | omega | decide) only [go_sem, f0, hn, e4, e8, e12, e6, hd, hso, cellsOf_page, getD_get, Int.reduceToNat, Bool.not_true, Bool.not_false, Bool.true_or, Bool.false_or]; rfl) (by simp [setAt])]
          exact hK _
        apply aops_step (by decide) rfl
        · intro K hK
          simp (disch := first | omega | decide) only [go_sem, f0, hn, e4, e8, e12, e6, hd, hso, act_call, List.map, cellsOf_page, getD_get, Int.reduceToNat, Bool.not_true, Bool.not_false, Bool.true_or, Bool.false_or]
          apply mwp_call_s rfl rfl rfl
          · intro Q hQ
            ((try simp only [opn_agg, opn_own, opn_v]); (try simp only [List.drop_zero, List.drop_succ_cons, List.take_succ_cons, List.take_zero]); (repeat (first | rw [mwp_peekL_agg] | rw [mwp_peekL_v] | rw [mwp_peekL_arr (by simp (disch := first | omega | decide) only [go_sem, f0, hn, e4, e8, e12, e6, hd, hso, cellsOf_page, getD_get, Int.reduceToNat, Bool.not_true, Bool.not_false, Bool.true_or, Bool.false_or]; rfl)] | rw [mwp_peekL_nil])); (repeat (rw [sub_full (by (simp; done))])); exact hQ)
          · exact good_refMayP (pgP l) (by omega)
          · simp [-List.map_take, -List.map_drop, -List.map_append, -List.map_replicate, -List.reduceReplicate, noPtrL, noPtr, noPtrL_bsl, noPtrL_map, sub]
          · rfl
          · exact hK _
        iterate 2 (apply aops_step (by decide) rfl; · (intro K hK; simp (disch := first | omega | decide) only [go_sem, f0, hn, e4, e8, e12, e6, hd, hso, cellsOf_page, getD_get, Int.reduceToNat, Bool.not_true, Bool.not_false, Bool.true_or, Bool.false_or]; exact hK _))
        apply aops_step (by decide) rfl
        · intro K hK
          simp (disch := first | omega | decide) only [go_sem, f0, hn, e4, e8, e12, e6, hd, hso, act_load_t ti58, List.map, cellsOf_page, getD_get, Int.reduceToNat, Bool.not_true, Bool.not_false, Bool.true_or, Bool.false_or]
          rw [mwp_load_bs (by simp (disch := first | omega | decide) only [go_sem, f0, hn, e4, e8, e12, e6, hd, hso, cellsOf_page, getD_get, Int.reduceToNat, Bool.not_true, Bool.not_false, Bool.true_or, Bool.false_or]; rfl) (by simp [setAt])]
          exact hK _
        apply aops_step (by decide) rfl
        · intro K hK
          simp (disch := first | omega | decide) only [go_sem, f0, hn, e4, e8, e12, e6, hd, hso, act_call, List.map, cellsOf_page, getD_get, Int.reduceToNat, Bool.not_true, Bool.not_false, Bool.true_or, Bool.false_or]
          apply mwp_call_r rfl rfl rfl
          · intro Q hQ
            ((try simp only [opn_agg, opn_own, opn_v]); (try simp only [List.drop_zero, List.drop_succ_cons, List.take_succ_cons, List.take_zero]); (repeat (first | rw [mwp_reifyL_agg] | rw [mwp_reifyL_v] | rw [mwp_reifyL_arr (by simp (disch := first | omega | decide) only [go_sem, f0, hn, e4, e8, e12, e6, hd, hso, cellsOf_page, getD_get, Int.reduceToNat, Bool.not_true, Bool.not_false, Bool.true_or, Bool.false_or]; rfl)] | rw [mwp_reifyL_nil])); (repeat (rw [sub_full (by (simp; done))])); exact hQ)
          · exact good_refPutP (pgP l) (by omega) hsp
          · simp [-List.map_take, -List.map_drop, -List.map_append, -List.map_replicate, -List.reduceReplicate, noPtrL, noPtr, noPtrL_bsl, noPtrL_map, sub]
          · simp (disch := first | omega | decide) only [go_sem, f0, hn, e4, e8, e12, e6, hd, hso, cellsOf_page, getD_get, Int.reduceToNat, Bool.not_true, Bool.not_false, Bool.true_or, Bool.false_or]
            exact hK _
        iterate 1 (apply aops_step (by decide) rfl; · (intro K hK; simp (disch := first | omega | decide) only [go_sem, f0, hn, e4, e8, e12, e6, hd, hso, cellsOf_page, getD_get, Int.reduceToNat, Bool.not_true, Bool.not_false, Bool.true_or, Bool.false_or]; exact hK _))
        apply aops_step (by decide) rfl
        · intro K hK
          simp (disch := first | omega | decide) only [go_sem, f0, hn, e4, e8, e12, e6, hd, hso, act_call, List.map, cellsOf_page, getD_get, Int.reduceToNat, Bool.not_true, Bool.not_false, Bool.true_or, Bool.false_or]
          apply mwp_call_s rfl rfl rfl
          · intro Q hQ
            (simp (disch := first | omega | decide) only [go_sem, f0, hn, e4, e8, e12, e6, hd, hso, peekL, reifyL_nil, reifyL_cons, reify_v, cellsOf_page, getD_get, Int.reduceToNat, Bool.not_true, Bool.not_false, Bool.true_or, Bool.false_or]; (exact hQ))
          · exact O.good_Same false nil (pgPut (pgP l)) l (by rw [pgPut, hsp, if_pos rfl, Z.sealS_len, pageB_len e7]; omega) (by omega)
          · simp [-List.map_take, -List.map_drop, -List.map_append, -List.map_replicate, -List.reduceReplicate, noPtrL, noPtr, noPtrL_bsl, noPtrL_map, sub]
          · rfl
          · exact hK _
        iterate 2 (apply aops_step (by decide) rfl; · (intro K hK; simp (disch := first | omega | decide) only [go_sem, f0, hn, e4, e8, e12, e6, hd, hso, cellsOf_page, getD_get, Int.reduceToNat, Bool.not_true, Bool.not_false, Bool.true_or, Bool.false_or]; exact hK _))
        refine aops_nil ?_
        apply AW.cond
        · simp (disch := first | omega | decide) only [go_sem, f0, hn, e4, e8, e12, e6, hd, hso, cellsOf_page, getD_get, Int.reduceToNat, Bool.not_true, Bool.not_false, Bool.true_or, Bool.false_or]; rfl
        case ht =>
          intro hb
          try simp only [Bool.or_eq_true, Bool.and_eq_true, Bool.or_eq_false_iff, Bool.and_eq_false_iff, decide_eq_true_eq, decide_eq_false_iff_not] at hb
          have hbt60 := hb
          refine AW.seq ?_
          refine AW.region (cfg := cfg) ?_
          apply aops_step (by decide) rfl
          · intro K hK
            simp (disch := first | omega | decide) only [go_sem, f0, hn, e4, e8, e12, e6, hd, hso, act_build_t ti58 pl58, List.map, cellsOf_page, getD_get, Int.reduceToNat, Bool.not_true, Bool.not_false, Bool.true_or, Bool.false_or]
            simp [-List.map_take, -List.map_drop, fillL, okOne, cellishAV, Value.oneCell', cellsL, cellsOf, setAt, M.bind, Mwp, mset_same, Obj.isArr]
            exact hK _
          apply aops_step0 rfl
          · intro K hK
            simp (disch := first | omega | decide) only [go_sem, f0, hn, e4, e8, e12, e6, hd, hso, act_store_t ti58, List.map, cellsOf_page, getD_get, Int.reduceToNat, Bool.not_true, Bool.not_false, Bool.true_or, Bool.false_or]
            rw [mwp_store_c (by simp (disch := first | omega | decide) only [go_sem, f0, hn, e4, e8, e12, e6, hd, hso, cellsOf_page, getD_get, Int.reduceToNat, Bool.not_true, Bool.not_false, Bool.true_or, Bool.false_or]; rfl) (by rfl) (by rfl) (by rfl) (by simp)]
            try simp only [setAt, cellsL, cellsOf_agg, cellsOf_base, List.map_cons, List.map_nil, List.set_cons_zero, List.set_cons_succ, Nat.reduceAdd, Nat.zero_add, hG]
            exact hK _
          iterate 1 (apply aops_step (by decide) rfl; · (intro K hK; simp (disch := first | omega | decide) only [go_sem, f0, hn, e4, e8, e12, e6, hd, hso, cellsOf_page, getD_get, Int.reduceToNat, Bool.not_true, Bool.not_false, Bool.true_or, Bool.false_or]; exact hK _))
          refine aops_nil ?_
          refine AW.ret ?_
          refine ⟨.inr rfl, ?_⟩
          refine leaves_mwp2 (rs := [.cell 2 58, .tmp 3]) rfl ?_
          simp (config := {failIfUnchanged := false}) [giveL, srcOne, rehome, freezeN, sub, ti58, upd, opn, aLoad, loadL, giveOne, reify, reifyL, readL, readOne, Mwp, M.bind, Mem.set, setAt, cellsL, hG, f0, hn, e4, e8, e12, e6, hd, hso]
          all_goals (have z : pgGood l = false := (by rw [good_is h512 (by omega), hso]; simpa using hbt60); rw [pgV_no z, z]; exact ⟨rfl, rfl⟩)
        case hf =>
          intro hb
          try simp only [Bool.or_eq_true, Bool.and_eq_true, Bool.or_eq_false_iff, Bool.and_eq_false_iff, decide_eq_true_eq, decide_eq_false_iff_not] at hb
          have hbt60 := hb
          refine AW.skip ?_
          refine AW.seq ?_
          refine AW.region (cfg := cfg) ?_
          apply aops_step (by decide) rfl
          · intro K hK
            simp (disch := first | omega | decide) only [go_sem, f0, hn, e4, e8, e12, e6, hd, hso, act_load_t ti58, List.map, cellsOf_page, getD_get, Int.reduceToNat, Bool.not_true, Bool.not_false, Bool.true_or, Bool.false_or]
            rw [mwp_load_bs (by simp (disch := first | omega | decide) only [go_sem, f0, hn, e4, e8, e12, e6, hd, hso, cellsOf_page, getD_get, Int.reduceToNat, Bool.not_true, Bool.not_false, Bool.true_or, Bool.false_or]; rfl) (by simp [setAt])]
            exact hK _
          apply aops_step0 rfl
          · intro K hK
            simp (disch := first | omega | decide) only [go_sem, f0, hn, e4, e8, e12, e6, hd, hso, act_store_t ti58, List.map, cellsOf_page, getD_get, Int.reduceToNat, Bool.not_true, Bool.not_false, Bool.true_or, Bool.false_or]
            (refine mwp_store_gen (by simp (disch := first | omega | decide) only [go_sem, f0, hn, e4, e8, e12, e6, hd, hso, cellsOf_page, getD_get, Int.reduceToNat, Bool.not_true, Bool.not_false, Bool.true_or, Bool.false_or]; rfl) ?_; simp only [cellsL]; (try simp only [List.drop_zero, List.drop_succ_cons, List.take_succ_cons, List.take_zero]); (repeat (first | rw [mwp_settleL_v (by rfl)] | rw [mwp_settleL_cellf (by decide) (by simp (disch := first | omega | decide) only [go_sem, f0, hn, e4, e8, e12, e6, hd, hso, cellsOf_page, getD_get, Int.reduceToNat, Bool.not_true, Bool.not_false, Bool.true_or, Bool.false_or]; rfl)])); rw [mwp_settleL_nil]; refine ⟨by simp (disch := first | omega | decide) only [go_sem, f0, hn, e4, e8, e12, e6, hd, hso, cellsOf_page, getD_get, Int.reduceToNat, Bool.not_true, Bool.not_false, Bool.true_or, Bool.false_or] <;> rfl, rfl, by simp, ?_⟩)
            try simp only [setAt, cellsL, cellsOf_agg, cellsOf_base, List.map_cons, List.map_nil, List.set_cons_zero, List.set_cons_succ, Nat.reduceAdd, Nat.zero_add, hG]
            exact hK _
          iterate 1 (apply aops_step (by decide) rfl; · (intro K hK; simp (disch := first | omega | decide) only [go_sem, f0, hn, e4, e8, e12, e6, hd, hso, cellsOf_page, getD_get, Int.reduceToNat, Bool.not_true, Bool.not_false, Bool.true_or, Bool.false_or]; exact hK _))
          refine aops_nil ?_
          refine AW.ret ?_
          refine ⟨.inr rfl, ?_⟩
          refine leaves_mwp2 (rs := [.cell 2 58, .tmp 3]) rfl ?_
          simp (config := {failIfUnchanged := false}) [giveL, srcOne, rehome, freezeN, sub, ti58, upd, opn, aLoad, loadL, giveOne, reify, reifyL, readL, readOne, Mwp, M.bind, Mem.set, setAt, cellsL, hG, f0, hn, e4, e8, e12, e6, hd, hso]
          all_goals (have z : pgGood l = true := (by rw [good_is h512 (by omega), hso]; simpa using hbt60); rw [pgV_is z, z]; exact ⟨pg_end l, rfl⟩)
      · have hd := decide_eq_false hsp
        have hsp := Bool.eq_false_iff.2 hsp
        have hso := hsp
        refine AW.region (cfg := cfg) ?_
        apply aops_step (by decide) rfl
        · intro K hK
          simp (disch := first | omega | decide) only [go_sem, f0, hn, e4, e8, e12, e6, hd, hso, act_load_t ti58, List.map, cellsOf_page, getD_get, Int.reduceToNat, Bool.not_true, Bool.not_false, Bool.true_or, Bool.false_or]
          rw [mwp_load_bs (by simp (disch := first | omega | decide) only [go_sem, f0, hn, e4, e8, e12, e6, hd, hso, cellsOf_page, getD_get, Int.reduceToNat, Bool.not_true, Bool.not_false, Bool.true_or, Bool.false_or]; rfl) (by simp [setAt])]
          exact hK _
        apply aops_step (by decide) rfl
        · intro K hK
          simp (disch := first | omega | decide) only [go_sem, f0, hn, e4, e8, e12, e6, hd, hso, act_call, List.map, cellsOf_page, getD_get, Int.reduceToNat, Bool.not_true, Bool.not_false, Bool.true_or, Bool.false_or]
          apply mwp_call_s rfl rfl rfl
          · intro Q hQ
            ((try simp only [opn_agg, opn_own, opn_v]); (try simp only [List.drop_zero, List.drop_succ_cons, List.take_succ_cons, List.take_zero]); (repeat (first | rw [mwp_peekL_agg] | rw [mwp_peekL_v] | rw [mwp_peekL_arr (by simp (disch := first | omega | decide) only [go_sem, f0, hn, e4, e8, e12, e6, hd, hso, cellsOf_page, getD_get, Int.reduceToNat, Bool.not_true, Bool.not_false, Bool.true_or, Bool.false_or]; rfl)] | rw [mwp_peekL_nil])); (repeat (rw [sub_full (by (simp; done))])); exact hQ)
          · exact good_refMayP (pgP l) (by omega)
          · simp [-List.map_take, -List.map_drop, -List.map_append, -List.map_replicate, -List.reduceReplicate, noPtrL, noPtr, noPtrL_bsl, noPtrL_map, sub]
          · rfl
          · exact hK _
        iterate 2 (apply aops_step (by decide) rfl; · (intro K hK; simp (disch := first | omega | decide) only [go_sem, f0, hn, e4, e8, e12, e6, hd, hso, cellsOf_page, getD_get, Int.reduceToNat, Bool.not_true, Bool.not_false, Bool.true_or, Bool.false_or]; exact hK _))
        apply aops_skip' (by decide) rfl
        apply aops_skip' (by decide) rfl
        apply aops_skip' (by decide) rfl
        apply aops_skip' (by decide) rfl
        apply aops_skip' (by decide) rfl
        iterate 1 (apply aops_step (by decide) rfl; · (intro K hK; simp (disch := first | omega | decide) only [go_sem, f0, hn, e4, e8, e12, e6, hd, hso, cellsOf_page, getD_get, Int.reduceToNat, Bool.not_true, Bool.not_false, Bool.true_or, Bool.false_or]; exact hK _))
        refine aops_nil ?_
        apply AW.cond
        · simp (disch := first | omega | decide) only [go_sem, f0, hn, e4, e8, e12, e6, hd, hso, cellsOf_page, getD_get, Int.reduceToNat, Bool.not_true, Bool.not_false, Bool.true_or, Bool.false_or]; rfl
        case ht =>
          intro hb
          try simp only [Bool.or_eq_true, Bool.and_eq_true, Bool.or_eq_false_iff, Bool.and_eq_false_iff, decide_eq_true_eq, decide_eq_false_iff_not] at hb
          have hbt60 := hb
          refine AW.seq ?_
          refine AW.region (cfg := cfg) ?_
          apply aops_step (by decide) rfl
          · intro K hK
            simp (disch := first | omega | decide) only [go_sem, f0, hn, e4, e8, e12, e6, hd, hso, act_build_t ti58 pl58, List.map, cellsOf_page, getD_get, Int.reduceToNat, Bool.not_true, Bool.not_false, Bool.true_or, Bool.false_or]
            simp [-List.map_take, -List.map_drop, fillL, okOne, cellishAV, Value.oneCell', cellsL, cellsOf, setAt, M.bind, Mwp, mset_same, Obj.isArr]
            exact hK _
          apply aops_step0 rfl
          · intro K hK
            simp (disch := first | omega | decide) only [go_sem, f0, hn, e4, e8, e12, e6, hd, hso, act_store_t ti58, List.map, cellsOf_page, getD_get, Int.reduceToNat, Bool.not_true, Bool.not_false, Bool.true_or, Bool.false_or]
            rw [mwp_store_c (by simp (disch := first | omega | decide) only [go_sem, f0, hn, e4, e8, e12, e6, hd, hso, cellsOf_page, getD_get, Int.reduceToNat, Bool.not_true, Bool.not_false, Bool.true_or, Bool.false_or]; rfl) (by rfl) (by rfl) (by rfl) (by simp)]
            try simp only [setAt, cellsL, cellsOf_agg, cellsOf_base, List.map_cons, List.map_nil, List.set_cons_zero, List.set_cons_succ, Nat.reduceAdd, Nat.zero_add, hG]
            exact hK _
          iterate 1 (apply aops_step (by decide) rfl; · (intro K hK; simp (disch := first | omega | decide) only [go_sem, f0, hn, e4, e8, e12, e6, hd, hso, cellsOf_page, getD_get, Int.reduceToNat, Bool.not_true, Bool.not_false, Bool.true_or, Bool.false_or]; exact hK _))
          refine aops_nil ?_
          refine AW.ret ?_
          refine ⟨.inr rfl, ?_⟩
          refine leaves_mwp2 (rs := [.cell 2 58, .tmp 3]) rfl ?_
          simp (config := {failIfUnchanged := false}) [giveL, srcOne, rehome, freezeN, sub, ti58, upd, opn, aLoad, loadL, giveOne, reify, reifyL, readL, readOne, Mwp, M.bind, Mem.set, setAt, cellsL, hG, f0, hn, e4, e8, e12, e6, hd, hso]
          all_goals (have z : pgGood l = false := (by rw [good_is h512 (by omega), hso]; (simp; done)); rw [pgV_no z, z]; exact ⟨rfl, rfl⟩)
        case hf =>
          intro hb
          try simp only [Bool.or_eq_true, Bool.and_eq_true, Bool.or_eq_false_iff, Bool.and_eq_false_iff, decide_eq_true_eq, decide_eq_false_iff_not] at hb
          have hbt60 := hb
          refine AW.skip ?_
          refine AW.seq ?_
          refine AW.region (cfg := cfg) ?_
          apply aops_step (by decide) rfl
          · intro K hK
            simp (disch := first | omega | decide) only [go_sem, f0, hn, e4, e8, e12, e6, hd, hso, act_load_t ti58, List.map, cellsOf_page, getD_get, Int.reduceToNat, Bool.not_true, Bool.not_false, Bool.true_or, Bool.false_or]
            rw [mwp_load_bs (by simp (disch := first | omega | decide) only [go_sem, f0, hn, e4, e8, e12, e6, hd, hso, cellsOf_page, getD_get, Int.reduceToNat, Bool.not_true, Bool.not_false, Bool.true_or, Bool.false_or]; rfl) (by simp [setAt])]
            exact hK _
          apply aops_step0 rfl
          · intro K hK
            simp (disch := first | omega | decide) only [go_sem, f0, hn, e4, e8, e12, e6, hd, hso, act_store_t ti58, List.map, cellsOf_page, getD_get, Int.reduceToNat, Bool.not_true, Bool.not_false, Bool.true_or, Bool.false_or]
            (refine mwp_store_gen (by simp (disch := first | omega | decide) only [go_sem, f0, hn, e4, e8, e12, e6, hd, hso, cellsOf_page, getD_get, Int.reduceToNat, Bool.not_true, Bool.not_false, Bool.true_or, Bool.false_or]; rfl) ?_; simp only [cellsL]; (try simp only [List.drop_zero, List.drop_succ_cons, List.take_succ_cons, List.take_zero]); (repeat (first | rw [mwp_settleL_v (by rfl)] | rw [mwp_settleL_cell (by decide) (by simp (disch := first | omega | decide) only [go_sem, f0, hn, e4, e8, e12, e6, hd, hso, cellsOf_page, getD_get, Int.reduceToNat, Bool.not_true, Bool.not_false, Bool.true_or, Bool.false_or]; rfl)])); rw [mwp_settleL_nil]; refine ⟨by simp (disch := first | omega | decide) only [go_sem, f0, hn, e4, e8, e12, e6, hd, hso, cellsOf_page, getD_get, Int.reduceToNat, Bool.not_true, Bool.not_false, Bool.true_or, Bool.false_or] <;> rfl, rfl, by simp, ?_⟩)
            try simp only [setAt, cellsL, cellsOf_agg, cellsOf_base, List.map_cons, List.map_nil, List.set_cons_zero, List.set_cons_succ, Nat.reduceAdd, Nat.zero_add, hG]
            exact hK _
          iterate 1 (apply aops_step (by decide) rfl; · (intro K hK; simp (disch := first | omega | decide) only [go_sem, f0, hn, e4, e8, e12, e6, hd, hso, cellsOf_page, getD_get, Int.reduceToNat, Bool.not_true, Bool.not_false, Bool.true_or, Bool.false_or]; exact hK _))
          refine aops_nil ?_
          refine AW.ret ?_
          refine ⟨.inr rfl, ?_⟩
          refine leaves_mwp2 (rs := [.cell 2 58, .tmp 3]) rfl ?_
          simp (config := {failIfUnchanged := false}) [giveL, srcOne, rehome, freezeN, sub, ti58, upd, opn, aLoad, loadL, giveOne, reify, reifyL, readL, readOne, Mwp, M.bind, Mem.set, setAt, cellsL, hG, f0, hn, e4, e8, e12, e6, hd, hso]
          all_goals (exfalso; simp at hbt60; done)

end Go.Vai.G
