import Derived.Test.YtblgcekomnnfmaagPage5
namespace Go.Vai.G
open Go.Proofs Go.Vai Go.Vai.L Go.Vai.O Go.Vai.U Go.Vai.Z
set_option linter.unusedSimpArgs false
set_option linter.unusedVariables false

open Go.Vai.Z (sealS okO okV body seal_open sealS_len ckB)
theorem pg_left {i : List (BitVec 8)} (h : i.length = 508) (h2 : pgN i ≤ 488) : 508 - (((i.drop (20 + (pgN i).toNat)).length : Nat) : Int) = ((20 + (pgN i).toNat : Nat) : Int) := by
  have n0 : 0 ≤ pgN i := (rV_range i 18 false 2).1
  simp; omega
theorem in_no0 {i : List (BitVec 8)} (h : hasP i mag = false) : pgIn i = false := by rw [pgIn, h, Bool.false_and]
theorem in_no1 {i : List (BitVec 8)} (h : i.length = 508) (hw : sBad i 18 false = true) : pgIn i = false := by
  rw [sB_iff h, decide_eq_true_eq] at hw
  have : decide (pgN i ≤ 488) = false := decide_eq_false (by omega)
  rw [pgIn, this, Bool.false_and, Bool.and_false]
theorem in_no2 {i : List (BitVec 8)} (h : pageOK (pgP i) = false) : pgIn i = false := by rw [pgIn, h]; simp
theorem in_no3 {i : List (BitVec 8)} (h : ((i.drop (20 + (pgN i).toNat)).any nz) = true) : pgIn i = false := by rw [pgIn, h]; simp
theorem in_yes {i : List (BitVec 8)} (h0 : hasP i mag = true) (h1 : pgN i ≤ 488) (h2 : pageOK (pgP i) = true) (h3 : ((i.drop (20 + (pgN i).toNat)).any nz) = false) : pgIn i = true := by
  rw [pgIn, h0, h2, h3, decide_eq_true h1]; rfl
theorem pgP_ok {l : List (BitVec 8)} (hk : okO l = true) (hi : (okV l).length = 508) (h1 : pgN (okV l) ≤ 488) : pgP (okV l) = pgP l := by
  obtain ⟨e1, e2⟩ := okV_is hk hi
  rw [e1, pgN_take e2] at h1
  rw [e1]; exact (pgP_take e2).resolve_right (fun f => f h1)
theorem pgA_is (i : List (BitVec 8)) : AV.agg [.i .i64 (at1 i 3), .i .i64 (at4 i 4), .i .i64 (at4 i 8), .i .i64 (at4 i 12), .i .i64 (at1 i 16), .i .i64 (at1 i 17), .sl 1 false (List.take (pgN i).toNat (List.drop 20 (List.map u8 i)))] = pageA (pgP i) := by
  rw [← List.map_drop, ← List.map_take]; rfl
theorem at1_bd (i : List (BitVec 8)) (k : Nat) : 0 ≤ at1 i k ∧ at1 i k < 256 := by have := (i.getD k default).isLt; unfold at1; omega
theorem at4_bd (i : List (BitVec 8)) (k : Nat) : 0 ≤ at4 i k ∧ at4 i k < 4294967296 := rV_range4 i k false
theorem good_rd1 {i : List (BitVec 8)} (h : i.length = 508) (k : Nat) (hk : k + 1 ≤ 508) : Good Try.prog 34 [(.gp 0 0, false), (i64 1, false)] [[.sl 1 false (bsl (i.drop k)), .b false]] [(.i .u64 (at1 i k), false)] [[.sl 1 false (bsl (i.drop (k + 1))), .b false]] := by
  obtain ⟨e1, e2, e3⟩ := rd3 h k 1 (by omega) (by omega)
  have g := O.good_NumR false (i.drop k) false (by simp; omega) (by simp) 1
  rw [e1, e2, e3, rV_one (by omega)] at g; exact g
theorem good_rd4 {i : List (BitVec 8)} (h : i.length = 508) (k : Nat) (hk : k + 4 ≤ 508) : Good Try.prog 34 [(.gp 0 0, false), (i64 4, false)] [[.sl 1 false (bsl (i.drop k)), .b false]] [(.i .u64 (at4 i k), false)] [[.sl 1 false (bsl (i.drop (k + 4))), .b false]] := by
  obtain ⟨e1, e2, e3⟩ := rd3 h k 4 (by omega) (by omega)
  have g := O.good_NumR false (i.drop k) false (by simp; omega) (by simp) 4
  rw [e1, e2, e3] at g; exact g
theorem good_rdT {i : List (BitVec 8)} (h : i.length = 508) : Good Try.prog 90 [(.gp 0 0, false)] [[.sl 1 false (bsl (i.drop 18)), .b false]] [(.sl 1 (sBad i 18 false) (bsl (sV i 18 false)), false)] [[.sl 1 false (bsl (i.drop (sA i 18 false))), .b (sBad i 18 false)]] := by
  obtain ⟨e1, e2, e3⟩ := text_ok (l := i) (a := 18) (by omega) false
  have g := O.good_TextR false (i.drop 18) false (by simp; omega) (by simp)
  have e4 : txF false (i.drop 18) false = sBad i 18 false := by rw [txF, e3]; cases sBad i 18 false <;> rfl
  rw [e1, e2, e3, e4] at g; exact g
theorem pg_way (i : List (BitVec 8)) : sBad i 18 false = true ∨ (sBad i 18 false = false ∧ pageOK (pgP i) = false) ∨ (sBad i 18 false = false ∧ pageOK (pgP i) = true) := by
  cases sBad i 18 false <;> cases pageOK (pgP i) <;> simp
set_option maxHeartbeats 4000000 in
set_option maxRecDepth 100000 in
theorem good_GetP (nil : Bool) (l : List (BitVec 8)) (hl : l.length ≤ 140737488355000) (hz : nil = true → l = []) : Good Try.prog 59 [(.sl 1 nil (bsl l), false)] [] [(pageA (pgV l), false), (i64 (pgR l), false)] [] := by
  refine good_of_body4 69 Try.func59 rfl rfl rfl (by simp) (by simp) (by simp [noPtrL, noPtr]) (by simp [noPtrL, noPtr]) ?_
  intro s m ha hr hv hG
  have f0 : s 0 = .v (.sl 1 nil (bsl l)) := ha 0 _ rfl
  clear ha
  refine AW.seq ?_
  refine AW.region (cfg := cfg) ?_
  apply aops_step (by decide) rfl
  · intro K hK
    simp (disch := first | omega | decide) only [go_sem, f0, act_alloc_t ti58, List.map, cellsOf_page, Int.reduceToNat, List.drop_drop, Nat.reduceAdd, Bool.not_true, Bool.not_false, Bool.true_or, Bool.false_or, Bool.or_false, Bool.or_true]
    exact hK _
  iterate 1 (apply aops_step (by decide) rfl; · (intro K hK; simp (disch := first | omega | decide) only [go_sem, f0, cellsOf_page, Int.reduceToNat, List.drop_drop, Nat.reduceAdd, Bool.not_true, Bool.not_false, Bool.true_or, Bool.false_or, Bool.or_false, Bool.or_true]; exact hK _))
  refine aops_nil ?_
  refine AW.seq ?_
  refine AW.region (cfg := cfg) ?_
  iterate 1 (apply aops_step (by decide) rfl; · (intro K hK; simp (disch := first | omega | decide) only [go_sem, f0, cellsOf_page, Int.reduceToNat, List.drop_drop, Nat.reduceAdd, Bool.not_true, Bool.not_false, Bool.true_or, Bool.false_or, Bool.or_false, Bool.or_true]; exact hK _))
  apply aops_step (by decide) rfl
  · intro K hK
    simp (disch := first | omega | decide) only [go_sem, f0, act_call, List.map, cellsOf_page, Int.reduceToNat, List.drop_drop, Nat.reduceAdd, Bool.not_true, Bool.not_false, Bool.true_or, Bool.false_or, Bool.or_false, Bool.or_true]
    apply mwp_call_r rfl rfl rfl
    · intro Q hQ
      (simp (disch := first | omega | decide) only [go_sem, f0, peekL, reifyL_nil, reifyL_cons, reify_v, cellsOf_page, Int.reduceToNat, List.drop_drop, Nat.reduceAdd, Bool.not_true, Bool.not_false, Bool.true_or, Bool.false_or, Bool.or_false, Bool.or_true]; (exact hQ))
    · exact Z.good_Open nil l (by omega) hz
    · simp [-List.map_take, -List.map_drop, -List.map_append, -List.map_replicate, -List.reduceReplicate, noPtrL, noPtr, noPtrL_bsl, noPtrL_map, sub]
    · simp (disch := first | omega | decide) only [go_sem, f0, cellsOf_page, Int.reduceToNat, List.drop_drop, Nat.reduceAdd, Bool.not_true, Bool.not_false, Bool.true_or, Bool.false_or, Bool.or_false, Bool.or_true]
      exact hK _
  iterate 5 (apply aops_step (by decide) rfl; · (intro K hK; simp (disch := first | omega | decide) only [go_sem, f0, cellsOf_page, Int.reduceToNat, List.drop_drop, Nat.reduceAdd, Bool.not_true, Bool.not_false, Bool.true_or, Bool.false_or, Bool.or_false, Bool.or_true]; exact hK _))
  refine aops_nil ?_
  refine AW.seq ?_
  refine AW.seq ?_
  rcases three_way l with ⟨hk, hi⟩ | ⟨hk, hi⟩ | hk
  · skip
    have h508 : ((okV l).length : Int) = 508 := by omega
    obtain ⟨k1, k2⟩ := okV_is hk hi
    obtain rfl : nil = false := by cases nil <;> simp_all
    have hki : (if okO l = true then false else true) = false := by rw [hk]; rfl
    have hzd : (false : Bool) = true → ∀ k : Nat, (okV l).drop k = [] := fun h => by cases h
    have hd := d00
    refine AW.region (cfg := cfg) ?_
    iterate 9 (apply aops_step (by decide) rfl; · (intro K hK; simp (disch := first | omega | decide) only [go_sem, f0, hk, h508, hki, List.map, List.length_map, aops_len u22, cellsOf_page, Int.reduceToNat, List.drop_drop, Nat.reduceAdd, Bool.not_true, Bool.not_false, Bool.true_or, Bool.false_or, Bool.or_false, Bool.or_true]; exact hK _))
    apply aops_step (by decide) rfl
    · intro K hK
      rw [act_bs el22 ti5]
      (simp [-List.map_take, -List.map_drop, -BitVec.toNat_ofInt, -BitVec.ofInt_natCast, -BitVec.toNat_setWidth, -BitVec.toNat_ushiftRight, -BitVec.toNat_umod, -BitVec.toNat_udiv, go_sem, elems_v, cellishAV, Value.oneCell', isAggAV, partsOf, TI.z, TI.mk1, f0, hk, h508, hki]; exact hK _)
    apply aops_step (by decide) rfl
    · intro K hK
      rw [act_convB u22 u5]
      simp (disch := first | omega | decide) only [go_sem, f0, hk, h508, hki, cellsOf_page, Int.reduceToNat, List.drop_drop, Nat.reduceAdd, Bool.not_true, Bool.not_false, Bool.true_or, Bool.false_or, Bool.or_false, Bool.or_true]
      rw [convN_eq (by simp (disch := first | omega | decide) only [go_sem, f0, hk, h508, hki, cellsOf_page, Int.reduceToNat, List.drop_drop, Nat.reduceAdd, Bool.not_true, Bool.not_false, Bool.true_or, Bool.false_or, Bool.or_false, Bool.or_true]; rfl)]
      exact hK _
    apply aops_step (by decide) rfl
    · intro K hK
      simp (disch := first | omega | decide) only [go_sem, f0, hk, h508, hki, act_call, List.map, cellsOf_page, Int.reduceToNat, List.drop_drop, Nat.reduceAdd, Bool.not_true, Bool.not_false, Bool.true_or, Bool.false_or, Bool.or_false, Bool.or_true]
      apply mwp_call_s rfl rfl rfl
      · intro Q hQ
        (simp (disch := first | omega | decide) only [go_sem, f0, hk, h508, hki, peekL, reifyL_nil, reifyL_cons, reify_v, cellsOf_page, Int.reduceToNat, List.drop_drop, Nat.reduceAdd, Bool.not_true, Bool.not_false, Bool.true_or, Bool.false_or, Bool.or_false, Bool.or_true]; (exact hQ))
      · exact good_HasPrefix false false (okV l) mag (by omega) (by decide)
      · simp [-List.map_take, -List.map_drop, -List.map_append, -List.map_replicate, -List.reduceReplicate, noPtrL, noPtr, noPtrL_bsl, noPtrL_map, sub]
      · rfl
      · exact hK _
    iterate 2 (apply aops_step (by decide) rfl; · (intro K hK; simp (disch := first | omega | decide) only [go_sem, f0, hk, h508, hki, cellsOf_page, Int.reduceToNat, List.drop_drop, Nat.reduceAdd, Bool.not_true, Bool.not_false, Bool.true_or, Bool.false_or, Bool.or_false, Bool.or_true]; exact hK _))
    refine aops_nil ?_
    apply AW.cond
    · simp (disch := first | omega | decide) only [go_sem, f0, hk, h508, hki, cellsOf_page, Int.reduceToNat, List.drop_drop, Nat.reduceAdd, Bool.not_true, Bool.not_false, Bool.true_or, Bool.false_or, Bool.or_false, Bool.or_true]; rfl
    case ht =>
      intro hb
      try simp only [Bool.or_eq_true, Bool.and_eq_true, Bool.or_eq_false_iff, Bool.and_eq_false_iff, decide_eq_true_eq, decide_eq_false_iff_not] at hb
      have hbt26 := hb
      refine AW.seq ?_
      refine AW.region (cfg := cfg) ?_
      apply aops_step (by decide) rfl
      · intro K hK
        simp (disch := first | omega | decide) only [go_sem, f0, hk, h508, hki, act_build_t ti58 pl58, List.map, cellsOf_page, Int.reduceToNat, List.drop_drop, Nat.reduceAdd, Bool.not_true, Bool.not_false, Bool.true_or, Bool.false_or, Bool.or_false, Bool.or_true]
        simp [-List.map_take, -List.map_drop, fillL, okOne, cellishAV, Value.oneCell', cellsL, cellsOf, setAt, M.bind, Mwp, mset_same, Obj.isArr]
        exact hK _
      apply aops_step0 rfl
      · intro K hK
        simp (disch := first | omega | decide) only [go_sem, f0, hk, h508, hki, act_store_t ti58, List.map, cellsOf_page, Int.reduceToNat, List.drop_drop, Nat.reduceAdd, Bool.not_true, Bool.not_false, Bool.true_or, Bool.false_or, Bool.or_false, Bool.or_true]
        rw [mwp_store_c (by simp (disch := first | omega | decide) only [go_sem, f0, hk, h508, hki, cellsOf_page, Int.reduceToNat, List.drop_drop, Nat.reduceAdd, Bool.not_true, Bool.not_false, Bool.true_or, Bool.false_or, Bool.or_false, Bool.or_true]; rfl) (by rfl) (by rfl) (by rfl) (by simp)]
        try simp only [setAt, cellsL, cellsOf_agg, cellsOf_base, List.map_cons, List.map_nil, List.set_cons_zero, List.set_cons_succ, Nat.reduceAdd, Nat.zero_add, hG]
        exact hK _
      iterate 1 (apply aops_step (by decide) rfl; · (intro K hK; simp (disch := first | omega | decide) only [go_sem, f0, hk, h508, hki, cellsOf_page, Int.reduceToNat, List.drop_drop, Nat.reduceAdd, Bool.not_true, Bool.not_false, Bool.true_or, Bool.false_or, Bool.or_false, Bool.or_true]; exact hK _))
      refine aops_nil ?_
      refine AW.ret ?_
      refine ⟨.inr rfl, ?_⟩
      apply Exists.intro
      refine leaves_mwp2 (rs := [.cell 2 58, .tmp 3]) rfl ?_
      simp (config := {failIfUnchanged := false}) [giveL, srcOne, rehome, freezeN, sub, ti58, upd, opn, aLoad, loadL, giveOne, reify, reifyL, readL, readOne, Mwp, M.bind, Mem.set, setAt, cellsL, hG, f0, hk, h508, hki]
      (have z : pgGood l = false := (by (rw [good_in hk hi]; exact in_no0 (by simpa using hbt26))); obtain ⟨e1, e2⟩ := pgR_no z; refine ⟨⟨?_, ?_⟩, rfl⟩; rw [e1]; rfl; rw [e2])
    case hf =>
      intro hb
      try simp only [Bool.or_eq_true, Bool.and_eq_true, Bool.or_eq_false_iff, Bool.and_eq_false_iff, decide_eq_true_eq, decide_eq_false_iff_not] at hb
      have hbt26 := hb
      refine AW.skip ?_
      refine AW.seq ?_
      refine AW.region (cfg := cfg) ?_
      iterate 2 (apply aops_step (by decide) rfl; · (intro K hK; simp (disch := first | omega | decide) only [go_sem, f0, hk, h508, hki, act_slice_s u22 ti5, cellsOf_page, Int.reduceToNat, List.drop_drop, Nat.reduceAdd, Bool.not_true, Bool.not_false, Bool.true_or, Bool.false_or, Bool.or_false, Bool.or_true]; exact hK _))
      apply aops_step (by decide) rfl
      · intro K hK
        simp (disch := first | omega | decide) only [go_sem, f0, hk, h508, hki, act_call, List.map, cellsOf_page, Int.reduceToNat, List.drop_drop, Nat.reduceAdd, Bool.not_true, Bool.not_false, Bool.true_or, Bool.false_or, Bool.or_false, Bool.or_true]
        apply mwp_call_g rfl rfl rfl
        · intro Q hQ
          (simp (disch := first | omega | decide) only [go_sem, f0, hk, h508, hki, peekL, reifyL_nil, reifyL_cons, reify_v, cellsOf_page, Int.reduceToNat, List.drop_drop, Nat.reduceAdd, Bool.not_true, Bool.not_false, Bool.true_or, Bool.false_or, Bool.or_false, Bool.or_true]; (exact hQ))
        · exact hG
        · exact O.good_Read false ((okV l).drop 3) (by simp; omega) (by simp)
        · simp (disch := first | omega | decide) only [go_sem, f0, hk, h508, hki, cellsOf_page, Int.reduceToNat, List.drop_drop, Nat.reduceAdd, Bool.not_true, Bool.not_false, Bool.true_or, Bool.false_or, Bool.or_false, Bool.or_true]
          exact hK _
      iterate 1 (apply aops_step (by decide) rfl; · (intro K hK; simp (disch := first | omega | decide) only [go_sem, f0, hk, h508, hki, cellsOf_page, Int.reduceToNat, List.drop_drop, Nat.reduceAdd, Bool.not_true, Bool.not_false, Bool.true_or, Bool.false_or, Bool.or_false, Bool.or_true]; exact hK _))
      refine aops_nil ?_
      refine AW.seq ?_
      have q3 := at1_bd (okV l) 3
      have q16 := at1_bd (okV l) 16
      have q17 := at1_bd (okV l) 17
      have q4 := at4_bd (okV l) 4
      have q8 := at4_bd (okV l) 8
      have q12 := at4_bd (okV l) 12
      refine AW.region (cfg := cfg) ?_
      iterate 1 (apply aops_step (by decide) rfl; · (intro K hK; simp (disch := first | omega | decide) only [go_sem, f0, hk, h508, hki, cellsOf_page, Int.reduceToNat, List.drop_drop, Nat.reduceAdd, Bool.not_true, Bool.not_false, Bool.true_or, Bool.false_or, Bool.or_false, Bool.or_true]; exact hK _))
      apply aops_step (by decide) rfl
      · intro K hK
        simp (disch := first | omega | decide) only [go_sem, f0, hk, h508, hki, act_call, List.map, cellsOf_page, Int.reduceToNat, List.drop_drop, Nat.reduceAdd, Bool.not_true, Bool.not_false, Bool.true_or, Bool.false_or, Bool.or_false, Bool.or_true]
        apply mwp_call_g rfl rfl rfl
        · intro Q hQ
          (simp (disch := first | omega | decide) only [go_sem, f0, hk, h508, hki, peekL, reifyL_nil, reifyL_cons, reify_v, cellsOf_page, Int.reduceToNat, List.drop_drop, Nat.reduceAdd, Bool.not_true, Bool.not_false, Bool.true_or, Bool.false_or, Bool.or_false, Bool.or_true]; (exact hQ))
        · rfl
        · exact good_rd1 hi 3 (by omega)
        · simp (disch := first | omega | decide) only [go_sem, f0, hk, h508, hki, cellsOf_page, Int.reduceToNat, List.drop_drop, Nat.reduceAdd, Bool.not_true, Bool.not_false, Bool.true_or, Bool.false_or, Bool.or_false, Bool.or_true]
          exact hK _
      iterate 2 (apply aops_step (by decide) rfl; · (intro K hK; simp (disch := first | omega | decide) only [go_sem, f0, hk, h508, hki, act_convI u71 u3, cellsOf_page, Int.reduceToNat, List.drop_drop, Nat.reduceAdd, Bool.not_true, Bool.not_false, Bool.true_or, Bool.false_or, Bool.or_false, Bool.or_true]; exact hK _))
      apply aops_step (by decide) rfl
      · intro K hK
        simp (disch := first | omega | decide) only [go_sem, f0, hk, h508, hki, act_call, List.map, cellsOf_page, Int.reduceToNat, List.drop_drop, Nat.reduceAdd, Bool.not_true, Bool.not_false, Bool.true_or, Bool.false_or, Bool.or_false, Bool.or_true]
        apply mwp_call_g rfl rfl rfl
        · intro Q hQ
          (simp (disch := first | omega | decide) only [go_sem, f0, hk, h508, hki, peekL, reifyL_nil, reifyL_cons, reify_v, cellsOf_page, Int.reduceToNat, List.drop_drop, Nat.reduceAdd, Bool.not_true, Bool.not_false, Bool.true_or, Bool.false_or, Bool.or_false, Bool.or_true]; (exact hQ))
        · rfl
        · exact good_rd4 hi 4 (by omega)
        · simp (disch := first | omega | decide) only [go_sem, f0, hk, h508, hki, cellsOf_page, Int.reduceToNat, List.drop_drop, Nat.reduceAdd, Bool.not_true, Bool.not_false, Bool.true_or, Bool.false_or, Bool.or_false, Bool.or_true]
          exact hK _
      iterate 2 (apply aops_step (by decide) rfl; · (intro K hK; simp (disch := first | omega | decide) only [go_sem, f0, hk, h508, hki, act_convI u71 u3, cellsOf_page, Int.reduceToNat, List.drop_drop, Nat.reduceAdd, Bool.not_true, Bool.not_false, Bool.true_or, Bool.false_or, Bool.or_false, Bool.or_true]; exact hK _))
      apply aops_step (by decide) rfl
      · intro K hK
        simp (disch := first | omega | decide) only [go_sem, f0, hk, h508, hki, act_call, List.map, cellsOf_page, Int.reduceToNat, List.drop_drop, Nat.reduceAdd, Bool.not_true, Bool.not_false, Bool.true_or, Bool.false_or, Bool.or_false, Bool.or_true]
        apply mwp_call_g rfl rfl rfl
        · intro Q hQ
          (simp (disch := first | omega | decide) only [go_sem, f0, hk, h508, hki, peekL, reifyL_nil, reifyL_cons, reify_v, cellsOf_page, Int.reduceToNat, List.drop_drop, Nat.reduceAdd, Bool.not_true, Bool.not_false, Bool.true_or, Bool.false_or, Bool.or_false, Bool.or_true]; (exact hQ))
        · rfl
        · exact good_rd4 hi 8 (by omega)
        · simp (disch := first | omega | decide) only [go_sem, f0, hk, h508, hki, cellsOf_page, Int.reduceToNat, List.drop_drop, Nat.reduceAdd, Bool.not_true, Bool.not_false, Bool.true_or, Bool.false_or, Bool.or_false, Bool.or_true]
          exact hK _
      iterate 2 (apply aops_step (by decide) rfl; · (intro K hK; simp (disch := first | omega | decide) only [go_sem, f0, hk, h508, hki, act_convI u71 u3, cellsOf_page, Int.reduceToNat, List.drop_drop, Nat.reduceAdd, Bool.not_true, Bool.not_false, Bool.true_or, Bool.false_or, Bool.or_false, Bool.or_true]; exact hK _))
      apply aops_step (by decide) rfl
      · intro K hK
        simp (disch := first | omega | decide) only [go_sem, f0, hk, h508, hki, act_call, List.map, cellsOf_page, Int.reduceToNat, List.drop_drop, Nat.reduceAdd, Bool.not_true, Bool.not_false, Bool.true_or, Bool.false_or, Bool.or_false, Bool.or_true]
        apply mwp_call_g rfl rfl rfl
        · intro Q hQ
          (simp (disch := first | omega | decide) only [go_sem, f0, hk, h508, hki, peekL, reifyL_nil, reifyL_cons, reify_v, cellsOf_page, Int.reduceToNat, List.drop_drop, Nat.reduceAdd, Bool.not_true, Bool.not_false, Bool.true_or, Bool.false_or, Bool.or_false, Bool.or_true]; (exact hQ))
        · rfl
        · exact good_rd4 hi 12 (by omega)
        · simp (disch := first | omega | decide) only [go_sem, f0, hk, h508, hki, cellsOf_page, Int.reduceToNat, List.drop_drop, Nat.reduceAdd, Bool.not_true, Bool.not_false, Bool.true_or, Bool.false_or, Bool.or_false, Bool.or_true]
          exact hK _
      iterate 2 (apply aops_step (by decide) rfl; · (intro K hK; simp (disch := first | omega | decide) only [go_sem, f0, hk, h508, hki, act_convI u71 u3, cellsOf_page, Int.reduceToNat, List.drop_drop, Nat.reduceAdd, Bool.not_true, Bool.not_false, Bool.true_or, Bool.false_or, Bool.or_false, Bool.or_true]; exact hK _))
      apply aops_step (by decide) rfl
      · intro K hK
        simp (disch := first | omega | decide) only [go_sem, f0, hk, h508, hki, act_call, List.map, cellsOf_page, Int.reduceToNat, List.drop_drop, Nat.reduceAdd, Bool.not_true, Bool.not_false, Bool.true_or, Bool.false_or, Bool.or_false, Bool.or_true]
        apply mwp_call_g rfl rfl rfl
        · intro Q hQ
          (simp (disch := first | omega | decide) only [go_sem, f0, hk, h508, hki, peekL, reifyL_nil, reifyL_cons, reify_v, cellsOf_page, Int.reduceToNat, List.drop_drop, Nat.reduceAdd, Bool.not_true, Bool.not_false, Bool.true_or, Bool.false_or, Bool.or_false, Bool.or_true]; (exact hQ))
        · rfl
        · exact good_rd1 hi 16 (by omega)
        · simp (disch := first | omega | decide) only [go_sem, f0, hk, h508, hki, cellsOf_page, Int.reduceToNat, List.drop_drop, Nat.reduceAdd, Bool.not_true, Bool.not_false, Bool.true_or, Bool.false_or, Bool.or_false, Bool.or_true]
          exact hK _
      iterate 2 (apply aops_step (by decide) rfl; · (intro K hK; simp (disch := first | omega | decide) only [go_sem, f0, hk, h508, hki, act_convI u71 u3, cellsOf_page, Int.reduceToNat, List.drop_drop, Nat.reduceAdd, Bool.not_true, Bool.not_false, Bool.true_or, Bool.false_or, Bool.or_false, Bool.or_true]; exact hK _))
      apply aops_step (by decide) rfl
      · intro K hK
        simp (disch := first | omega | decide) only [go_sem, f0, hk, h508, hki, act_call, List.map, cellsOf_page, Int.reduceToNat, List.drop_drop, Nat.reduceAdd, Bool.not_true, Bool.not_false, Bool.true_or, Bool.false_or, Bool.or_false, Bool.or_true]
        apply mwp_call_g rfl rfl rfl
        · intro Q hQ
          (simp (disch := first | omega | decide) only [go_sem, f0, hk, h508, hki, peekL, reifyL_nil, reifyL_cons, reify_v, cellsOf_page, Int.reduceToNat, List.drop_drop, Nat.reduceAdd, Bool.not_true, Bool.not_false, Bool.true_or, Bool.false_or, Bool.or_false, Bool.or_true]; (exact hQ))
        · rfl
        · exact good_rd1 hi 17 (by omega)
        · simp (disch := first | omega | decide) only [go_sem, f0, hk, h508, hki, cellsOf_page, Int.reduceToNat, List.drop_drop, Nat.reduceAdd, Bool.not_true, Bool.not_false, Bool.true_or, Bool.false_or, Bool.or_false, Bool.or_true]
          exact hK _
      iterate 2 (apply aops_step (by decide) rfl; · (intro K hK; simp (disch := first | omega | decide) only [go_sem, f0, hk, h508, hki, act_convI u71 u3, cellsOf_page, Int.reduceToNat, List.drop_drop, Nat.reduceAdd, Bool.not_true, Bool.not_false, Bool.true_or, Bool.false_or, Bool.or_false, Bool.or_true]; exact hK _))
      apply aops_step (by decide) rfl
      · intro K hK
        simp (disch := first | omega | decide) only [go_sem, f0, hk, h508, hki, act_call, List.map, cellsOf_page, Int.reduceToNat, List.drop_drop, Nat.reduceAdd, Bool.not_true, Bool.not_false, Bool.true_or, Bool.false_or, Bool.or_false, Bool.or_true]
        apply mwp_call_g rfl rfl rfl
        · intro Q hQ
          (simp (disch := first | omega | decide) only [go_sem, f0, hk, h508, hki, peekL, reifyL_nil, reifyL_cons, reify_v, cellsOf_page, Int.reduceToNat, List.drop_drop, Nat.reduceAdd, Bool.not_true, Bool.not_false, Bool.true_or, Bool.false_or, Bool.or_false, Bool.or_true]; (exact hQ))
        · rfl
        · exact good_rdT hi
        · simp (disch := first | omega | decide) only [go_sem, f0, hk, h508, hki, cellsOf_page, Int.reduceToNat, List.drop_drop, Nat.reduceAdd, Bool.not_true, Bool.not_false, Bool.true_or, Bool.false_or, Bool.or_false, Bool.or_true]
          exact hK _
      apply aops_step (by decide) rfl
      · intro K hK
        simp (disch := first | omega | decide) only [go_sem, f0, hk, h508, hki, act_build_t ti58 pl58, List.map, cellsOf_page, Int.reduceToNat, List.drop_drop, Nat.reduceAdd, Bool.not_true, Bool.not_false, Bool.true_or, Bool.false_or, Bool.or_false, Bool.or_true]
        simp [-List.map_take, -List.map_drop, fillL, okOne, cellishAV, Value.oneCell', cellsL, cellsOf, setAt, M.bind, Mwp, mset_same, Obj.isArr]
        exact hK _
      apply aops_step (by decide) rfl
      · intro K hK
        simp (disch := first | omega | decide) only [go_sem, f0, hk, h508, hki, act_alloc_t ti58, List.map, cellsOf_page, Int.reduceToNat, List.drop_drop, Nat.reduceAdd, Bool.not_true, Bool.not_false, Bool.true_or, Bool.false_or, Bool.or_false, Bool.or_true]
        exact hK _
      apply aops_step0 rfl
      · intro K hK
        simp (disch := first | omega | decide) only [go_sem, f0, hk, h508, hki, act_store_t ti58, List.map, cellsOf_page, Int.reduceToNat, List.drop_drop, Nat.reduceAdd, Bool.not_true, Bool.not_false, Bool.true_or, Bool.false_or, Bool.or_false, Bool.or_true]
        rw [mwp_store_c (by simp (disch := first | omega | decide) only [go_sem, f0, hk, h508, hki, cellsOf_page, Int.reduceToNat, List.drop_drop, Nat.reduceAdd, Bool.not_true, Bool.not_false, Bool.true_or, Bool.false_or, Bool.or_false, Bool.or_true]; rfl) (by rfl) (by rfl) (by rfl) (by simp)]
        try simp only [setAt, cellsL, cellsOf_agg, cellsOf_base, List.map_cons, List.map_nil, List.set_cons_zero, List.set_cons_succ, Nat.reduceAdd, Nat.zero_add, hG]
        exact hK _
      refine aops_nil ?_
      refine AW.seq ?_
      refine AW.seq ?_
      rcases pg_way (okV l) with hw | ⟨hw, hp⟩ | ⟨hw, hp⟩
      · skip
        have hv1 := d00
        have hv2 := d00
        have hv3 := d00
        have hp := d00
        refine AW.region (cfg := cfg) ?_
        iterate 1 (apply aops_step (by decide) rfl; · (intro K hK; simp (disch := first | omega | decide) only [go_sem, f0, hk, h508, hki, hw, hp, hv1, hv2, hv3, cellsOf_page, Int.reduceToNat, List.drop_drop, Nat.reduceAdd, Bool.not_true, Bool.not_false, Bool.true_or, Bool.false_or, Bool.or_false, Bool.or_true]; exact hK _))
        apply aops_step (by decide) rfl
        · intro K hK
          simp (disch := first | omega | decide) only [go_sem, f0, hk, h508, hki, hw, hp, hv1, hv2, hv3, act_call, List.map, cellsOf_page, Int.reduceToNat, List.drop_drop, Nat.reduceAdd, Bool.not_true, Bool.not_false, Bool.true_or, Bool.false_or, Bool.or_false, Bool.or_true]
          apply mwp_call_g rfl rfl rfl
          · intro Q hQ
            (simp (disch := first | omega | decide) only [go_sem, f0, hk, h508, hki, hw, hp, hv1, hv2, hv3, peekL, reifyL_nil, reifyL_cons, reify_v, cellsOf_page, Int.reduceToNat, List.drop_drop, Nat.reduceAdd, Bool.not_true, Bool.not_false, Bool.true_or, Bool.false_or, Bool.or_false, Bool.or_true]; (exact hQ))
          · rfl
          · exact O.good_Wrong false _ _ (by simp; omega) (by simp)
          · simp (disch := first | omega | decide) only [go_sem, f0, hk, h508, hki, hw, hp, hv1, hv2, hv3, cellsOf_page, Int.reduceToNat, List.drop_drop, Nat.reduceAdd, Bool.not_true, Bool.not_false, Bool.true_or, Bool.false_or, Bool.or_false, Bool.or_true]
            exact hK _
        iterate 1 (apply aops_step (by decide) rfl; · (intro K hK; simp (disch := first | omega | decide) only [go_sem, f0, hk, h508, hki, hw, hp, hv1, hv2, hv3, cellsOf_page, Int.reduceToNat, List.drop_drop, Nat.reduceAdd, Bool.not_true, Bool.not_false, Bool.true_or, Bool.false_or, Bool.or_false, Bool.or_true]; exact hK _))
        apply aops_skip' (by decide) rfl
        apply aops_skip' (by decide) rfl
        apply aops_skip' (by decide) rfl
        iterate 2 (apply aops_step (by decide) rfl; · (intro K hK; simp (disch := first | omega | decide) only [go_sem, f0, hk, h508, hki, hw, hp, hv1, hv2, hv3, cellsOf_page, Int.reduceToNat, List.drop_drop, Nat.reduceAdd, Bool.not_true, Bool.not_false, Bool.true_or, Bool.false_or, Bool.or_false, Bool.or_true]; exact hK _))
        apply aops_skip' (by decide) rfl
        apply aops_skip' (by decide) rfl
        apply aops_skip' (by decide) rfl
        apply aops_skip' (by decide) rfl
        apply aops_skip' (by decide) rfl
        apply aops_skip' (by decide) rfl
        iterate 1 (apply aops_step (by decide) rfl; · (intro K hK; simp (disch := first | omega | decide) only [go_sem, f0, hk, h508, hki, hw, hp, hv1, hv2, hv3, cellsOf_page, Int.reduceToNat, List.drop_drop, Nat.reduceAdd, Bool.not_true, Bool.not_false, Bool.true_or, Bool.false_or, Bool.or_false, Bool.or_true]; exact hK _))
        refine aops_nil ?_
        apply AW.cond
        · simp (disch := first | omega | decide) only [go_sem, f0, hk, h508, hki, hw, hp, hv1, hv2, hv3, cellsOf_page, Int.reduceToNat, List.drop_drop, Nat.reduceAdd, Bool.not_true, Bool.not_false, Bool.true_or, Bool.false_or, Bool.or_false, Bool.or_true]; rfl
        case hf => intro hb; simp at hb
        case ht =>
        intro hb
        have hbt66 := hb
        refine AW.seq ?_
        refine AW.region (cfg := cfg) ?_
        apply aops_step (by decide) rfl
        · intro K hK
          simp (disch := first | omega | decide) only [go_sem, f0, hk, h508, hki, hw, hp, hv1, hv2, hv3, act_build_t ti58 pl58, List.map, cellsOf_page, Int.reduceToNat, List.drop_drop, Nat.reduceAdd, Bool.not_true, Bool.not_false, Bool.true_or, Bool.false_or, Bool.or_false, Bool.or_true]
          simp [-List.map_take, -List.map_drop, fillL, okOne, cellishAV, Value.oneCell', cellsL, cellsOf, setAt, M.bind, Mwp, mset_same, Obj.isArr]
          exact hK _
        apply aops_step0 rfl
        · intro K hK
          simp (disch := first | omega | decide) only [go_sem, f0, hk, h508, hki, hw, hp, hv1, hv2, hv3, act_store_t ti58, List.map, cellsOf_page, Int.reduceToNat, List.drop_drop, Nat.reduceAdd, Bool.not_true, Bool.not_false, Bool.true_or, Bool.false_or, Bool.or_false, Bool.or_true]
          rw [mwp_store_c (by simp (disch := first | omega | decide) only [go_sem, f0, hk, h508, hki, hw, hp, hv1, hv2, hv3, cellsOf_page, Int.reduceToNat, List.drop_drop, Nat.reduceAdd, Bool.not_true, Bool.not_false, Bool.true_or, Bool.false_or, Bool.or_false, Bool.or_true]; rfl) (by rfl) (by rfl) (by rfl) (by simp)]
          try simp only [setAt, cellsL, cellsOf_agg, cellsOf_base, List.map_cons, List.map_nil, List.set_cons_zero, List.set_cons_succ, Nat.reduceAdd, Nat.zero_add, hG]
          exact hK _
        iterate 1 (apply aops_step (by decide) rfl; · (intro K hK; simp (disch := first | omega | decide) only [go_sem, f0, hk, h508, hki, hw, hp, hv1, hv2, hv3, cellsOf_page, Int.reduceToNat, List.drop_drop, Nat.reduceAdd, Bool.not_true, Bool.not_false, Bool.true_or, Bool.false_or, Bool.or_false, Bool.or_true]; exact hK _))
        refine aops_nil ?_
        refine AW.ret ?_
        refine ⟨.inr rfl, ?_⟩
        apply Exists.intro
        refine leaves_mwp2 (rs := [.cell 2 58, .tmp 3]) rfl ?_
        simp (config := {failIfUnchanged := false}) [giveL, srcOne, rehome, freezeN, sub, ti58, upd, opn, aLoad, loadL, giveOne, reify, reifyL, readL, readOne, Mwp, M.bind, Mem.set, setAt, cellsL, hG, f0, hk, h508, hki, hw, hp, hv1, hv2, hv3]
        (have z : pgGood l = false := (by (rw [good_in hk hi]; exact in_no1 hi hw)); obtain ⟨e1, e2⟩ := pgR_no z; refine ⟨⟨?_, ?_⟩, rfl⟩; rw [e1]; rfl; rw [e2])
      · skip
        obtain ⟨hv1, hv2, hv5⟩ := sV_is hi hw
        have hv3 := pg_left hi hv5
        have hbl : (pgP (okV l)).b.length ≤ 508 := by (show (((okV l).drop 20).take _).length ≤ 508; simp; omega)
        refine AW.region (cfg := cfg) ?_
        iterate 1 (apply aops_step (by decide) rfl; · (intro K hK; simp (disch := first | omega | decide) only [go_sem, f0, hk, h508, hki, hw, hp, hv1, hv2, hv3, cellsOf_page, Int.reduceToNat, List.drop_drop, Nat.reduceAdd, Bool.not_true, Bool.not_false, Bool.true_or, Bool.false_or, Bool.or_false, Bool.or_true]; exact hK _))
        apply aops_step (by decide) rfl
        · intro K hK
          simp (disch := first | omega | decide) only [go_sem, f0, hk, h508, hki, hw, hp, hv1, hv2, hv3, act_call, List.map, cellsOf_page, Int.reduceToNat, List.drop_drop, Nat.reduceAdd, Bool.not_true, Bool.not_false, Bool.true_or, Bool.false_or, Bool.or_false, Bool.or_true]
          apply mwp_call_g rfl rfl rfl
          · intro Q hQ
            (simp (disch := first | omega | decide) only [go_sem, f0, hk, h508, hki, hw, hp, hv1, hv2, hv3, peekL, reifyL_nil, reifyL_cons, reify_v, cellsOf_page, Int.reduceToNat, List.drop_drop, Nat.reduceAdd, Bool.not_true, Bool.not_false, Bool.true_or, Bool.false_or, Bool.or_false, Bool.or_true]; (exact hQ))
          · rfl
          · exact O.good_Wrong false _ _ (by simp; omega) (by simp)
          · simp (disch := first | omega | decide) only [go_sem, f0, hk, h508, hki, hw, hp, hv1, hv2, hv3, cellsOf_page, Int.reduceToNat, List.drop_drop, Nat.reduceAdd, Bool.not_true, Bool.not_false, Bool.true_or, Bool.false_or, Bool.or_false, Bool.or_true]
            exact hK _
        iterate 1 (apply aops_step (by decide) rfl; · (intro K hK; simp (disch := first | omega | decide) only [go_sem, f0, hk, h508, hki, hw, hp, hv1, hv2, hv3, cellsOf_page, Int.reduceToNat, List.drop_drop, Nat.reduceAdd, Bool.not_true, Bool.not_false, Bool.true_or, Bool.false_or, Bool.or_false, Bool.or_true]; exact hK _))
        apply aops_step (by decide) rfl
        · intro K hK
          simp (disch := first | omega | decide) only [go_sem, f0, hk, h508, hki, hw, hp, hv1, hv2, hv3, act_load_t ti58, List.map, cellsOf_page, Int.reduceToNat, List.drop_drop, Nat.reduceAdd, Bool.not_true, Bool.not_false, Bool.true_or, Bool.false_or, Bool.or_false, Bool.or_true]
          rw [mwp_load_bs (by simp (disch := first | omega | decide) only [go_sem, f0, hk, h508, hki, hw, hp, hv1, hv2, hv3, cellsOf_page, Int.reduceToNat, List.drop_drop, Nat.reduceAdd, Bool.not_true, Bool.not_false, Bool.true_or, Bool.false_or, Bool.or_false, Bool.or_true]; rfl) (by simp [setAt])]
          exact hK _
        apply aops_step (by decide) rfl
        · intro K hK
          simp (disch := first | omega | decide) only [go_sem, f0, hk, h508, hki, hw, hp, hv1, hv2, hv3, act_call, List.map, cellsOf_page, Int.reduceToNat, List.drop_drop, Nat.reduceAdd, Bool.not_true, Bool.not_false, Bool.true_or, Bool.false_or, Bool.or_false, Bool.or_true]
          apply mwp_call_s rfl rfl rfl
          · intro Q hQ
            (simp (disch := first | omega | decide) only [go_sem, f0, hk, h508, hki, hw, hp, hv1, hv2, hv3, peekL, reifyL_nil, reifyL_cons, reify_v, cellsOf_page, Int.reduceToNat, List.drop_drop, Nat.reduceAdd, Bool.not_true, Bool.not_false, Bool.true_or, Bool.false_or, Bool.or_false, Bool.or_true]; (exact hQ))
          · exact good_mayP (pgP (okV l)) (by omega)
          · simp [-List.map_take, -List.map_drop, -List.map_append, -List.map_replicate, -List.reduceReplicate, noPtrL, noPtr, noPtrL_bsl, noPtrL_map, sub]
          · rfl
          · exact hK _
        iterate 3 (apply aops_step (by decide) rfl; · (intro K hK; simp (disch := first | omega | decide) only [go_sem, f0, hk, h508, hki, hw, hp, hv1, hv2, hv3, cellsOf_page, Int.reduceToNat, List.drop_drop, Nat.reduceAdd, Bool.not_true, Bool.not_false, Bool.true_or, Bool.false_or, Bool.or_false, Bool.or_true]; exact hK _))
        apply aops_skip' (by decide) rfl
        apply aops_skip' (by decide) rfl
        apply aops_skip' (by decide) rfl
        apply aops_skip' (by decide) rfl
        apply aops_skip' (by decide) rfl
        apply aops_skip' (by decide) rfl
        iterate 1 (apply aops_step (by decide) rfl; · (intro K hK; simp (disch := first | omega | decide) only [go_sem, f0, hk, h508, hki, hw, hp, hv1, hv2, hv3, cellsOf_page, Int.reduceToNat, List.drop_drop, Nat.reduceAdd, Bool.not_true, Bool.not_false, Bool.true_or, Bool.false_or, Bool.or_false, Bool.or_true]; exact hK _))
        refine aops_nil ?_
        apply AW.cond
        · simp (disch := first | omega | decide) only [go_sem, f0, hk, h508, hki, hw, hp, hv1, hv2, hv3, cellsOf_page, Int.reduceToNat, List.drop_drop, Nat.reduceAdd, Bool.not_true, Bool.not_false, Bool.true_or, Bool.false_or, Bool.or_false, Bool.or_true]; rfl
        case hf => intro hb; simp at hb
        case ht =>
        intro hb
        have hbt66 := hb
        refine AW.seq ?_
        refine AW.region (cfg := cfg) ?_
        apply aops_step (by decide) rfl
        · intro K hK
          simp (disch := first | omega | decide) only [go_sem, f0, hk, h508, hki, hw, hp, hv1, hv2, hv3, act_build_t ti58 pl58, List.map, cellsOf_page, Int.reduceToNat, List.drop_drop, Nat.reduceAdd, Bool.not_true, Bool.not_false, Bool.true_or, Bool.false_or, Bool.or_false, Bool.or_true]
          simp [-List.map_take, -List.map_drop, fillL, okOne, cellishAV, Value.oneCell', cellsL, cellsOf, setAt, M.bind, Mwp, mset_same, Obj.isArr]
          exact hK _
        apply aops_step0 rfl
        · intro K hK
          simp (disch := first | omega | decide) only [go_sem, f0, hk, h508, hki, hw, hp, hv1, hv2, hv3, act_store_t ti58, List.map, cellsOf_page, Int.reduceToNat, List.drop_drop, Nat.reduceAdd, Bool.not_true, Bool.not_false, Bool.true_or, Bool.false_or, Bool.or_false, Bool.or_true]
          rw [mwp_store_c (by simp (disch := first | omega | decide) only [go_sem, f0, hk, h508, hki, hw, hp, hv1, hv2, hv3, cellsOf_page, Int.reduceToNat, List.drop_drop, Nat.reduceAdd, Bool.not_true, Bool.not_false, Bool.true_or, Bool.false_or, Bool.or_false, Bool.or_true]; rfl) (by rfl) (by rfl) (by rfl) (by simp)]
          try simp only [setAt, cellsL, cellsOf_agg, cellsOf_base, List.map_cons, List.map_nil, List.set_cons_zero, List.set_cons_succ, Nat.reduceAdd, Nat.zero_add, hG]
          exact hK _
        iterate 1 (apply aops_step (by decide) rfl; · (intro K hK; simp (disch := first | omega | decide) only [go_sem, f0, hk, h508, hki, hw, hp, hv1, hv2, hv3, cellsOf_page, Int.reduceToNat, List.drop_drop, Nat.reduceAdd, Bool.not_true, Bool.not_false, Bool.true_or, Bool.false_or, Bool.or_false, Bool.or_true]; exact hK _))
        refine aops_nil ?_
        refine AW.ret ?_
        refine ⟨.inr rfl, ?_⟩
        apply Exists.intro
        refine leaves_mwp2 (rs := [.cell 2 58, .tmp 3]) rfl ?_
        simp (config := {failIfUnchanged := false}) [giveL, srcOne, rehome, freezeN, sub, ti58, upd, opn, aLoad, loadL, giveOne, reify, reifyL, readL, readOne, Mwp, M.bind, Mem.set, setAt, cellsL, hG, f0, hk, h508, hki, hw, hp, hv1, hv2, hv3]
        (have z : pgGood l = false := (by (rw [good_in hk hi]; exact in_no2 hp)); obtain ⟨e1, e2⟩ := pgR_no z; refine ⟨⟨?_, ?_⟩, rfl⟩; rw [e1]; rfl; rw [e2])
      · skip
        obtain ⟨hv1, hv2, hv5⟩ := sV_is hi hw
        have hv3 := pg_left hi hv5
        have hbl : (pgP (okV l)).b.length ≤ 508 := by (show (((okV l).drop 20).take _).length ≤ 508; simp; omega)
        refine AW.region (cfg := cfg) ?_
        iterate 1 (apply aops_step (by decide) rfl; · (intro K hK; simp (disch := first | omega | decide) only [go_sem, f0, hk, h508, hki, hw, hp, hv1, hv2, hv3, cellsOf_page, Int.reduceToNat, List.drop_drop, Nat.reduceAdd, Bool.not_true, Bool.not_false, Bool.true_or, Bool.false_or, Bool.or_false, Bool.or_true]; exact hK _))
        apply aops_step (by decide) rfl
        · intro K hK
          simp (disch := first | omega | decide) only [go_sem, f0, hk, h508, hki, hw, hp, hv1, hv2, hv3, act_call, List.map, cellsOf_page, Int.reduceToNat, List.drop_drop, Nat.reduceAdd, Bool.not_true, Bool.not_false, Bool.true_or, Bool.false_or, Bool.or_false, Bool.or_true]
          apply mwp_call_g rfl rfl rfl
          · intro Q hQ
            (simp (disch := first | omega | decide) only [go_sem, f0, hk, h508, hki, hw, hp, hv1, hv2, hv3, peekL, reifyL_nil, reifyL_cons, reify_v, cellsOf_page, Int.reduceToNat, List.drop_drop, Nat.reduceAdd, Bool.not_true, Bool.not_false, Bool.true_or, Bool.false_or, Bool.or_false, Bool.or_true]; (exact hQ))
          · rfl
          · exact O.good_Wrong false _ _ (by simp; omega) (by simp)
          · simp (disch := first | omega | decide) only [go_sem, f0, hk, h508, hki, hw, hp, hv1, hv2, hv3, cellsOf_page, Int.reduceToNat, List.drop_drop, Nat.reduceAdd, Bool.not_true, Bool.not_false, Bool.true_or, Bool.false_or, Bool.or_false, Bool.or_true]
            exact hK _
        iterate 1 (apply aops_step (by decide) rfl; · (intro K hK; simp (disch := first | omega | decide) only [go_sem, f0, hk, h508, hki, hw, hp, hv1, hv2, hv3, cellsOf_page, Int.reduceToNat, List.drop_drop, Nat.reduceAdd, Bool.not_true, Bool.not_false, Bool.true_or, Bool.false_or, Bool.or_false, Bool.or_true]; exact hK _))
        apply aops_step (by decide) rfl
        · intro K hK
          simp (disch := first | omega | decide) only [go_sem, f0, hk, h508, hki, hw, hp, hv1, hv2, hv3, act_load_t ti58, List.map, cellsOf_page, Int.reduceToNat, List.drop_drop, Nat.reduceAdd, Bool.not_true, Bool.not_false, Bool.true_or, Bool.false_or, Bool.or_false, Bool.or_true]
          rw [mwp_load_bs (by simp (disch := first | omega | decide) only [go_sem, f0, hk, h508, hki, hw, hp, hv1, hv2, hv3, cellsOf_page, Int.reduceToNat, List.drop_drop, Nat.reduceAdd, Bool.not_true, Bool.not_false, Bool.true_or, Bool.false_or, Bool.or_false, Bool.or_true]; rfl) (by simp [setAt])]
          exact hK _
        apply aops_step (by decide) rfl
        · intro K hK
          simp (disch := first | omega | decide) only [go_sem, f0, hk, h508, hki, hw, hp, hv1, hv2, hv3, act_call, List.map, cellsOf_page, Int.reduceToNat, List.drop_drop, Nat.reduceAdd, Bool.not_true, Bool.not_false, Bool.true_or, Bool.false_or, Bool.or_false, Bool.or_true]
          apply mwp_call_s rfl rfl rfl
          · intro Q hQ
            (simp (disch := first | omega | decide) only [go_sem, f0, hk, h508, hki, hw, hp, hv1, hv2, hv3, peekL, reifyL_nil, reifyL_cons, reify_v, cellsOf_page, Int.reduceToNat, List.drop_drop, Nat.reduceAdd, Bool.not_true, Bool.not_false, Bool.true_or, Bool.false_or, Bool.or_false, Bool.or_true]; (exact hQ))
          · exact good_mayP (pgP (okV l)) (by omega)
          · simp [-List.map_take, -List.map_drop, -List.map_append, -List.map_replicate, -List.reduceReplicate, noPtrL, noPtr, noPtrL_bsl, noPtrL_map, sub]
          · rfl
          · exact hK _
        iterate 5 (apply aops_step (by decide) rfl; · (intro K hK; simp (disch := first | omega | decide) only [go_sem, f0, hk, h508, hki, hw, hp, hv1, hv2, hv3, cellsOf_page, Int.reduceToNat, List.drop_drop, Nat.reduceAdd, Bool.not_true, Bool.not_false, Bool.true_or, Bool.false_or, Bool.or_false, Bool.or_true]; exact hK _))
        apply aops_step (by decide) rfl
        · intro K hK
          simp (disch := first | omega | decide) only [go_sem, f0, hk, h508, hki, hw, hp, hv1, hv2, hv3, act_call, List.map, cellsOf_page, Int.reduceToNat, List.drop_drop, Nat.reduceAdd, Bool.not_true, Bool.not_false, Bool.true_or, Bool.false_or, Bool.or_false, Bool.or_true]
          apply mwp_call_g rfl rfl rfl
          · intro Q hQ
            (simp (disch := first | omega | decide) only [go_sem, f0, hk, h508, hki, hw, hp, hv1, hv2, hv3, peekL, reifyL_nil, reifyL_cons, reify_v, cellsOf_page, Int.reduceToNat, List.drop_drop, Nat.reduceAdd, Bool.not_true, Bool.not_false, Bool.true_or, Bool.false_or, Bool.or_false, Bool.or_true]; (exact hQ))
          · rfl
          · exact O.good_Left false _ _ (by simp; omega) (by simp)
          · simp (disch := first | omega | decide) only [go_sem, f0, hk, h508, hki, hw, hp, hv1, hv2, hv3, cellsOf_page, Int.reduceToNat, List.drop_drop, Nat.reduceAdd, Bool.not_true, Bool.not_false, Bool.true_or, Bool.false_or, Bool.or_false, Bool.or_true]
            exact hK _
        iterate 2 (apply aops_step (by decide) rfl; · (intro K hK; simp (disch := first | omega | decide) only [go_sem, f0, hk, h508, hki, hw, hp, hv1, hv2, hv3, act_slice_s u22 ti5, cellsOf_page, Int.reduceToNat, List.drop_drop, Nat.reduceAdd, Bool.not_true, Bool.not_false, Bool.true_or, Bool.false_or, Bool.or_false, Bool.or_true]; exact hK _))
        apply aops_step (by decide) rfl
        · intro K hK
          simp (disch := first | omega | decide) only [go_sem, f0, hk, h508, hki, hw, hp, hv1, hv2, hv3, act_call, List.map, cellsOf_page, Int.reduceToNat, List.drop_drop, Nat.reduceAdd, Bool.not_true, Bool.not_false, Bool.true_or, Bool.false_or, Bool.or_false, Bool.or_true]
          apply mwp_call_s rfl rfl rfl
          · intro Q hQ
            (simp (disch := first | omega | decide) only [go_sem, f0, hk, h508, hki, hw, hp, hv1, hv2, hv3, peekL, reifyL_nil, reifyL_cons, reify_v, cellsOf_page, Int.reduceToNat, List.drop_drop, Nat.reduceAdd, Bool.not_true, Bool.not_false, Bool.true_or, Bool.false_or, Bool.or_false, Bool.or_true]; (exact hQ))
          · exact good_ContainsFuncByte false _ 93 [] nz (by simp; omega) rfl rfl rfl (fun x _ => good_nzG x)
          · simp [-List.map_take, -List.map_drop, -List.map_append, -List.map_replicate, -List.reduceReplicate, noPtrL, noPtr, noPtrL_bsl, noPtrL_map, sub]
          · rfl
          · exact hK _
        iterate 1 (apply aops_step (by decide) rfl; · (intro K hK; simp (disch := first | omega | decide) only [go_sem, f0, hk, h508, hki, hw, hp, hv1, hv2, hv3, cellsOf_page, Int.reduceToNat, List.drop_drop, Nat.reduceAdd, Bool.not_true, Bool.not_false, Bool.true_or, Bool.false_or, Bool.or_false, Bool.or_true]; exact hK _))
        refine aops_nil ?_
        apply AW.cond
        · simp (disch := first | omega | decide) only [go_sem, f0, hk, h508, hki, hw, hp, hv1, hv2, hv3, cellsOf_page, Int.reduceToNat, List.drop_drop, Nat.reduceAdd, Bool.not_true, Bool.not_false, Bool.true_or, Bool.false_or, Bool.or_false, Bool.or_true]; rfl
        case ht =>
          intro hb
          try simp only [Bool.or_eq_true, Bool.and_eq_true, Bool.or_eq_false_iff, Bool.and_eq_false_iff, decide_eq_true_eq, decide_eq_false_iff_not] at hb
          have hbt66 := hb
          refine AW.seq ?_
          refine AW.region (cfg := cfg) ?_
          apply aops_step (by decide) rfl
          · intro K hK
            simp (disch := first | omega | decide) only [go_sem, f0, hk, h508, hki, hw, hp, hv1, hv2, hv3, act_build_t ti58 pl58, List.map, cellsOf_page, Int.reduceToNat, List.drop_drop, Nat.reduceAdd, Bool.not_true, Bool.not_false, Bool.true_or, Bool.false_or, Bool.or_false, Bool.or_true]
            simp [-List.map_take, -List.map_drop, fillL, okOne, cellishAV, Value.oneCell', cellsL, cellsOf, setAt, M.bind, Mwp, mset_same, Obj.isArr]
            exact hK _
          apply aops_step0 rfl
          · intro K hK
            simp (disch := first | omega | decide) only [go_sem, f0, hk, h508, hki, hw, hp, hv1, hv2, hv3, act_store_t ti58, List.map, cellsOf_page, Int.reduceToNat, List.drop_drop, Nat.reduceAdd, Bool.not_true, Bool.not_false, Bool.true_or, Bool.false_or, Bool.or_false, Bool.or_true]
            rw [mwp_store_c (by simp (disch := first | omega | decide) only [go_sem, f0, hk, h508, hki, hw, hp, hv1, hv2, hv3, cellsOf_page, Int.reduceToNat, List.drop_drop, Nat.reduceAdd, Bool.not_true, Bool.not_false, Bool.true_or, Bool.false_or, Bool.or_false, Bool.or_true]; rfl) (by rfl) (by rfl) (by rfl) (by simp)]
            try simp only [setAt, cellsL, cellsOf_agg, cellsOf_base, List.map_cons, List.map_nil, List.set_cons_zero, List.set_cons_succ, Nat.reduceAdd, Nat.zero_add, hG]
            exact hK _
          iterate 1 (apply aops_step (by decide) rfl; · (intro K hK; simp (disch := first | omega | decide) only [go_sem, f0, hk, h508, hki, hw, hp, hv1, hv2, hv3, cellsOf_page, Int.reduceToNat, List.drop_drop, Nat.reduceAdd, Bool.not_true, Bool.not_false, Bool.true_or, Bool.false_or, Bool.or_false, Bool.or_true]; exact hK _))
          refine aops_nil ?_
          refine AW.ret ?_
          refine ⟨.inr rfl, ?_⟩
          apply Exists.intro
          refine leaves_mwp2 (rs := [.cell 2 58, .tmp 3]) rfl ?_
          simp (config := {failIfUnchanged := false}) [giveL, srcOne, rehome, freezeN, sub, ti58, upd, opn, aLoad, loadL, giveOne, reify, reifyL, readL, readOne, Mwp, M.bind, Mem.set, setAt, cellsL, hG, f0, hk, h508, hki, hw, hp, hv1, hv2, hv3]
          (have z : pgGood l = false := (by (rw [good_in hk hi]; exact in_no3 hbt66)); obtain ⟨e1, e2⟩ := pgR_no z; refine ⟨⟨?_, ?_⟩, rfl⟩; rw [e1]; rfl; rw [e2])
        case hf =>
          intro hb
          try simp only [Bool.or_eq_true, Bool.and_eq_true, Bool.or_eq_false_iff, Bool.and_eq_false_iff, decide_eq_true_eq, decide_eq_false_iff_not] at hb
          have hbt66 := hb
          refine AW.skip ?_
          refine AW.seq ?_
          refine AW.region (cfg := cfg) ?_
          apply aops_step (by decide) rfl
          · intro K hK
            simp (disch := first | omega | decide) only [go_sem, f0, hk, h508, hki, hw, hp, hv1, hv2, hv3, act_load_t ti58, List.map, cellsOf_page, Int.reduceToNat, List.drop_drop, Nat.reduceAdd, Bool.not_true, Bool.not_false, Bool.true_or, Bool.false_or, Bool.or_false, Bool.or_true]
            rw [mwp_load_bs (by simp (disch := first | omega | decide) only [go_sem, f0, hk, h508, hki, hw, hp, hv1, hv2, hv3, cellsOf_page, Int.reduceToNat, List.drop_drop, Nat.reduceAdd, Bool.not_true, Bool.not_false, Bool.true_or, Bool.false_or, Bool.or_false, Bool.or_true]; rfl) (by simp [setAt])]
            exact hK _
          apply aops_step0 rfl
          · intro K hK
            simp (disch := first | omega | decide) only [go_sem, f0, hk, h508, hki, hw, hp, hv1, hv2, hv3, act_store_t ti58, List.map, cellsOf_page, Int.reduceToNat, List.drop_drop, Nat.reduceAdd, Bool.not_true, Bool.not_false, Bool.true_or, Bool.false_or, Bool.or_false, Bool.or_true]
            rw [mwp_store_c (by simp (disch := first | omega | decide) only [go_sem, f0, hk, h508, hki, hw, hp, hv1, hv2, hv3, cellsOf_page, Int.reduceToNat, List.drop_drop, Nat.reduceAdd, Bool.not_true, Bool.not_false, Bool.true_or, Bool.false_or, Bool.or_false, Bool.or_true]; rfl) (by rfl) (by rfl) (by rfl) (by simp)]
            try simp only [setAt, cellsL, cellsOf_agg, cellsOf_base, List.map_cons, List.map_nil, List.set_cons_zero, List.set_cons_succ, Nat.reduceAdd, Nat.zero_add, hG]
            exact hK _
          iterate 1 (apply aops_step (by decide) rfl; · (intro K hK; simp (disch := first | omega | decide) only [go_sem, f0, hk, h508, hki, hw, hp, hv1, hv2, hv3, cellsOf_page, Int.reduceToNat, List.drop_drop, Nat.reduceAdd, Bool.not_true, Bool.not_false, Bool.true_or, Bool.false_or, Bool.or_false, Bool.or_true]; exact hK _))
          refine aops_nil ?_
          refine AW.ret ?_
          refine ⟨.inr rfl, ?_⟩
          apply Exists.intro
          refine leaves_mwp2 (rs := [.cell 2 58, .tmp 3]) rfl ?_
          simp (config := {failIfUnchanged := false}) [giveL, srcOne, rehome, freezeN, sub, ti58, upd, opn, aLoad, loadL, giveOne, reify, reifyL, readL, readOne, Mwp, M.bind, Mem.set, setAt, cellsL, hG, f0, hk, h508, hki, hw, hp, hv1, hv2, hv3]
          (have z : pgGood l = true := (by rw [good_in hk hi]; exact in_yes (by simpa using hbt26) hv5 hp hbt66); obtain ⟨e1, e2⟩ := pgR_is z; refine ⟨⟨?_, ?_⟩, rfl⟩; rw [e1, ← pgP_ok hk hi hv5]; exact pgA_is _; rw [e2])
  · skip
    have h508 : decide (((okV l).length : Int) ≠ 508) = true := decide_eq_true (by omega)
    have hki := d00
    have hd := d00
    refine AW.region (cfg := cfg) ?_
    iterate 8 (apply aops_step (by decide) rfl; · (intro K hK; simp (disch := first | omega | decide) only [go_sem, f0, hk, h508, hki, List.map, List.length_map, aops_len u22, cellsOf_page, Int.reduceToNat, List.drop_drop, Nat.reduceAdd, Bool.not_true, Bool.not_false, Bool.true_or, Bool.false_or, Bool.or_false, Bool.or_true]; exact hK _))
    apply aops_skip' (by decide) rfl
    apply aops_skip' (by decide) rfl
    apply aops_skip' (by decide) rfl
    apply aops_skip' (by decide) rfl
    apply aops_skip' (by decide) rfl
    iterate 1 (apply aops_step (by decide) rfl; · (intro K hK; simp (disch := first | omega | decide) only [go_sem, f0, hk, h508, hki, cellsOf_page, Int.reduceToNat, List.drop_drop, Nat.reduceAdd, Bool.not_true, Bool.not_false, Bool.true_or, Bool.false_or, Bool.or_false, Bool.or_true]; exact hK _))
    refine aops_nil ?_
    apply AW.cond
    · simp (disch := first | omega | decide) only [go_sem, f0, hk, h508, hki, cellsOf_page, Int.reduceToNat, List.drop_drop, Nat.reduceAdd, Bool.not_true, Bool.not_false, Bool.true_or, Bool.false_or, Bool.or_false, Bool.or_true]; rfl
    case hf => intro hb; simp at hb
    case ht =>
    intro hb
    have hbt26 := hb
    refine AW.seq ?_
    refine AW.region (cfg := cfg) ?_
    apply aops_step (by decide) rfl
    · intro K hK
      simp (disch := first | omega | decide) only [go_sem, f0, hk, h508, hki, act_build_t ti58 pl58, List.map, cellsOf_page, Int.reduceToNat, List.drop_drop, Nat.reduceAdd, Bool.not_true, Bool.not_false, Bool.true_or, Bool.false_or, Bool.or_false, Bool.or_true]
      simp [-List.map_take, -List.map_drop, fillL, okOne, cellishAV, Value.oneCell', cellsL, cellsOf, setAt, M.bind, Mwp, mset_same, Obj.isArr]
      exact hK _
    apply aops_step0 rfl
    · intro K hK
      simp (disch := first | omega | decide) only [go_sem, f0, hk, h508, hki, act_store_t ti58, List.map, cellsOf_page, Int.reduceToNat, List.drop_drop, Nat.reduceAdd, Bool.not_true, Bool.not_false, Bool.true_or, Bool.false_or, Bool.or_false, Bool.or_true]
      rw [mwp_store_c (by simp (disch := first | omega | decide) only [go_sem, f0, hk, h508, hki, cellsOf_page, Int.reduceToNat, List.drop_drop, Nat.reduceAdd, Bool.not_true, Bool.not_false, Bool.true_or, Bool.false_or, Bool.or_false, Bool.or_true]; rfl) (by rfl) (by rfl) (by rfl) (by simp)]
      try simp only [setAt, cellsL, cellsOf_agg, cellsOf_base, List.map_cons, List.map_nil, List.set_cons_zero, List.set_cons_succ, Nat.reduceAdd, Nat.zero_add, hG]
      exact hK _
    iterate 1 (apply aops_step (by decide) rfl; · (intro K hK; simp (disch := first | omega | decide) only [go_sem, f0, hk, h508, hki, cellsOf_page, Int.reduceToNat, List.drop_drop, Nat.reduceAdd, Bool.not_true, Bool.not_false, Bool.true_or, Bool.false_or, Bool.or_false, Bool.or_true]; exact hK _))
    refine aops_nil ?_
    refine AW.ret ?_
    refine ⟨.inr rfl, ?_⟩
    apply Exists.intro
    refine leaves_mwp2 (rs := [.cell 2 58, .tmp 3]) rfl ?_
    simp (config := {failIfUnchanged := false}) [giveL, srcOne, rehome, freezeN, sub, ti58, upd, opn, aLoad, loadL, giveOne, reify, reifyL, readL, readOne, Mwp, M.bind, Mem.set, setAt, cellsL, hG, f0, hk, h508, hki]
    (have z : pgGood l = false := (by exact good_f (fun h => hi h.2)); obtain ⟨e1, e2⟩ := pgR_no z; refine ⟨⟨?_, ?_⟩, rfl⟩; rw [e1]; rfl; rw [e2])
  · skip
    have h508 := d00
    have hki := d00
    have hd := d00
    refine AW.region (cfg := cfg) ?_
    iterate 3 (apply aops_step (by decide) rfl; · (intro K hK; simp (disch := first | omega | decide) only [go_sem, f0, hk, h508, hki, cellsOf_page, Int.reduceToNat, List.drop_drop, Nat.reduceAdd, Bool.not_true, Bool.not_false, Bool.true_or, Bool.false_or, Bool.or_false, Bool.or_true]; exact hK _))
    apply aops_skip' (by decide) rfl
    apply aops_skip' (by decide) rfl
    apply aops_skip' (by decide) rfl
    iterate 2 (apply aops_step (by decide) rfl; · (intro K hK; simp (disch := first | omega | decide) only [go_sem, f0, hk, h508, hki, cellsOf_page, Int.reduceToNat, List.drop_drop, Nat.reduceAdd, Bool.not_true, Bool.not_false, Bool.true_or, Bool.false_or, Bool.or_false, Bool.or_true]; exact hK _))
    apply aops_skip' (by decide) rfl
    apply aops_skip' (by decide) rfl
    apply aops_skip' (by decide) rfl
    apply aops_skip' (by decide) rfl
    apply aops_skip' (by decide) rfl
    iterate 1 (apply aops_step (by decide) rfl; · (intro K hK; simp (disch := first | omega | decide) only [go_sem, f0, hk, h508, hki, cellsOf_page, Int.reduceToNat, List.drop_drop, Nat.reduceAdd, Bool.not_true, Bool.not_false, Bool.true_or, Bool.false_or, Bool.or_false, Bool.or_true]; exact hK _))
    refine aops_nil ?_
    apply AW.cond
    · simp (disch := first | omega | decide) only [go_sem, f0, hk, h508, hki, cellsOf_page, Int.reduceToNat, List.drop_drop, Nat.reduceAdd, Bool.not_true, Bool.not_false, Bool.true_or, Bool.false_or, Bool.or_false, Bool.or_true]; rfl
    case hf => intro hb; simp at hb
    case ht =>
    intro hb
    have hbt26 := hb
    refine AW.seq ?_
    refine AW.region (cfg := cfg) ?_
    apply aops_step (by decide) rfl
    · intro K hK
      simp (disch := first | omega | decide) only [go_sem, f0, hk, h508, hki, act_build_t ti58 pl58, List.map, cellsOf_page, Int.reduceToNat, List.drop_drop, Nat.reduceAdd, Bool.not_true, Bool.not_false, Bool.true_or, Bool.false_or, Bool.or_false, Bool.or_true]
      simp [-List.map_take, -List.map_drop, fillL, okOne, cellishAV, Value.oneCell', cellsL, cellsOf, setAt, M.bind, Mwp, mset_same, Obj.isArr]
      exact hK _
    apply aops_step0 rfl
    · intro K hK
      simp (disch := first | omega | decide) only [go_sem, f0, hk, h508, hki, act_store_t ti58, List.map, cellsOf_page, Int.reduceToNat, List.drop_drop, Nat.reduceAdd, Bool.not_true, Bool.not_false, Bool.true_or, Bool.false_or, Bool.or_false, Bool.or_true]
      rw [mwp_store_c (by simp (disch := first | omega | decide) only [go_sem, f0, hk, h508, hki, cellsOf_page, Int.reduceToNat, List.drop_drop, Nat.reduceAdd, Bool.not_true, Bool.not_false, Bool.true_or, Bool.false_or, Bool.or_false, Bool.or_true]; rfl) (by rfl) (by rfl) (by rfl) (by simp)]
      try simp only [setAt, cellsL, cellsOf_agg, cellsOf_base, List.map_cons, List.map_nil, List.set_cons_zero, List.set_cons_succ, Nat.reduceAdd, Nat.zero_add, hG]
      exact hK _
    iterate 1 (apply aops_step (by decide) rfl; · (intro K hK; simp (disch := first | omega | decide) only [go_sem, f0, hk, h508, hki, cellsOf_page, Int.reduceToNat, List.drop_drop, Nat.reduceAdd, Bool.not_true, Bool.not_false, Bool.true_or, Bool.false_or, Bool.or_false, Bool.or_true]; exact hK _))
    refine aops_nil ?_
    refine AW.ret ?_
    refine ⟨.inr rfl, ?_⟩
    apply Exists.intro
    refine leaves_mwp2 (rs := [.cell 2 58, .tmp 3]) rfl ?_
    simp (config := {failIfUnchanged := false}) [giveL, srcOne, rehome, freezeN, sub, ti58, upd, opn, aLoad, loadL, giveOne, reify, reifyL, readL, readOne, Mwp, M.bind, Mem.set, setAt, cellsL, hG, f0, hk, h508, hki]
    (have z : pgGood l = false := (by exact good_f (fun h => Bool.false_ne_true (hk.symm.trans h.1))); obtain ⟨e1, e2⟩ := pgR_no z; refine ⟨⟨?_, ?_⟩, rfl⟩; rw [e1]; rfl; rw [e2])

end Go.Vai.G
