import Derived.Test.YtompjoadhhjddaabPage6
namespace Go.Vai.G
open Go.Proofs Go.Vai Go.Vai.L Go.Vai.O Go.Vai.U Go.Vai.Z
set_option linter.unusedSimpArgs false
set_option linter.unusedVariables false

open Go.Vai.Z (sealS okO okV body seal_open sealS_len ckB)
theorem pageEq_refl (p : Page) : pageEq p p = true := by simp [pageEq]
theorem pageEq_nil (p : Page) (n : Bool) : pageEq ⟨p.kind, p.gen, p.mark, p.idx, p.part, p.parts, n, p.b⟩ p = true := by simp [pageEq]
theorem drop_num {i : List (BitVec 8)} {k : Nat} {n : Int} {w : Nat} {r : List (BitVec 8)} (h : i.drop k = numR n w ++ r) : i.drop (k + w) = r := by
  rw [← List.drop_drop, h, List.drop_left' (numR_length _ _)]
theorem num_at {i : List (BitVec 8)} {k : Nat} {n : Int} {w : Nat} {r : List (BitVec 8)} (hw : 1 ≤ w ∧ w ≤ 8) (h : i.drop k = numR n w ++ r) (hk : k + w ≤ i.length) (hn : 0 ≤ n ∧ n < 2 ^ (8 * w)) : rV i k false w = n := by
  rw [rV_is (by omega) (by omega), h, Int.toNat_natCast, List.take_left' (numR_length _ _), numV_numR hn.1]
  exact Int.emod_eq_of_lt hn.1 hn.2
theorem page_in {p : Page} (h : pageOK p = true) : pgP (pageB p) = ⟨p.kind, p.gen, p.mark, p.idx, p.part, p.parts, false, p.b⟩ ∧ pgN (pageB p) = (p.b.length : Int) ∧ hasP (pageB p) mag = true ∧ ((pageB p).drop (20 + p.b.length)) = List.replicate (488 - p.b.length) 0#8 := by
  obtain ⟨c1, c2, c3, c4, c5, c6, c7⟩ := page_bd h
  have hl := pageB_len c7
  obtain ⟨z, hz⟩ : ∃ z, z = List.replicate (488 - p.b.length) 0#8 := ⟨_, rfl⟩
  have h3 : (pageB p).drop 3 = numR p.kind 1 ++ (numR p.gen 4 ++ (numR p.mark 4 ++ (numR p.idx 4 ++ (numR p.part 1 ++ (numR p.parts 1 ++ (numR (p.b.length : Int) 2 ++ (p.b ++ z))))))) := by
    rw [pageB, pageH, hz]; simp only [List.append_assoc]; rfl
  have h0 : (pageB p).take 3 = mag := by
    rw [pageB, pageH]; simp only [List.append_assoc]; rfl
  have h4 := drop_num h3
  have h8 := drop_num h4
  have h12 := drop_num h8
  have h16 := drop_num h12
  have h17 := drop_num h16
  have h18 := drop_num h17
  have h20 := drop_num h18
  simp only [Nat.reduceAdd] at h4 h8 h12 h16 h17 h18 h20
  have a3 := num_at (by omega) h3 (by omega) (by simp; omega)
  have a4 := num_at (by omega) h4 (by omega) (by simp; omega)
  have a8 := num_at (by omega) h8 (by omega) (by simp; omega)
  have a12 := num_at (by omega) h12 (by omega) (by simp; omega)
  have a16 := num_at (by omega) h16 (by omega) (by simp; omega)
  have a17 := num_at (by omega) h17 (by omega) (by simp; omega)
  have a18 := num_at (by omega) h18 (by omega) (by simp; omega)
  have hN : pgN (pageB p) = (p.b.length : Int) := a18
  have b3 : at1 (pageB p) 3 = p.kind := by rw [at1, ← rV_one (by omega)]; exact a3
  have b16 : at1 (pageB p) 16 = p.part := by rw [at1, ← rV_one (by omega)]; exact a16
  have b17 : at1 (pageB p) 17 = p.parts := by rw [at1, ← rV_one (by omega)]; exact a17
  refine ⟨?_, hN, (hasP_iff hl).2 h0, ?_⟩
  · rw [pgP, hN, b3, b16, b17, h20, Int.toNat_natCast, List.take_left' rfl]
    simp only [at4, Page.mk.injEq, and_true, true_and]
    exact ⟨a4, a8, a12⟩
  · rw [← List.drop_drop, h20, List.drop_left' rfl, hz]
theorem okP_nil {p : Page} (h : pageOK p = true) (n : Bool) : pageOK ⟨p.kind, p.gen, p.mark, p.idx, p.part, p.parts, n, p.b⟩ = true := h
theorem pgPut_len {p : Page} (h : pageOK p = true) : (pgPut p).length = 512 := by
  rw [pgPut, h, if_pos rfl, sealS_len, pageB_len (page_bd h).2.2.2.2.2.2]
theorem page_back {p : Page} (h : pageOK p = true) : pgGood (pgPut p) = true ∧ pgV (pgPut p) = ⟨p.kind, p.gen, p.mark, p.idx, p.part, p.parts, false, p.b⟩ ∧ pgR (pgPut p) = 0 := by
  obtain ⟨e1, e2, e3, e4⟩ := page_in h
  have c7 := (page_bd h).2.2.2.2.2.2
  have hs := seal_open (pageB p)
  have hp : pgPut p = sealS (pageB p) := (pg_ok h).1
  have hk : okO (pgPut p) = true := by rw [hp]; exact hs.1
  have hv : okV (pgPut p) = pageB p := by rw [hp]; exact hs.2
  have hi : (okV (pgPut p)).length = 508 := by rw [hv]; exact pageB_len c7
  have hg : pgGood (pgPut p) = true := by
    rw [good_in hk hi, hv]
    refine in_yes e3 (by rw [e2]; omega) (by rw [e1]; exact okP_nil h false) ?_
    rw [e2, Int.toNat_natCast, e4, any_nz]; simp
  have hP : pgP (pgPut p) = pgP (pageB p) := by rw [← pgP_ok hk hi (by rw [hv, e2]; omega), hv]
  exact ⟨hg, by rw [pgV_is hg, hP, e1], by simp [pgR, hg]⟩
def pa0 : Page := ⟨1, 0, 0, 0, 0, 1, false, [7#8]⟩
theorem pa_ok : pageOK pa0 = true := by decide
theorem pa_put : pgE pa0 = 0 := (pg_ok pa_ok).2
theorem pa_len : (((pgPut pa0).length : Nat) : Int) = 512 := by rw [pgPut_len pa_ok]; rfl
theorem zeros_any (n : Nat) : (List.replicate n 0#8).any nz = false := by rw [any_nz]; simp
def blk (l : List (BitVec 8)) (k : Nat) : Bool := decide ((l.length : Int) = 512) && !((l.take k).any nz)
theorem blk_succ {l : List (BitVec 8)} {k : Nat} (h : k < l.length) : (blk l k && decide ((l[k].toNat : Int) = 0)) = blk l (k + 1) := by
  rw [blk, blk, List.take_succ_eq_append_getElem h, List.any_append]
  simp only [List.any_cons, List.any_nil, Bool.or_false, Bool.not_or, Bool.and_assoc]
  congr 2
  unfold nz
  by_cases hz : (l[k].toNat : Int) = 0
  · rw [decide_eq_true hz, decide_eq_false (by simpa using hz)]; rfl
  · rw [decide_eq_false hz, decide_eq_true hz]; rfl
theorem blk_all (l : List (BitVec 8)) : (decide ((l.length : Int) = 512) && !(l.any nz)) = blk l l.length := by rw [blk, List.take_length]
theorem blk_good {l : List (BitVec 8)} (h : pgGood l = true) : blk l l.length = false := by
  obtain ⟨hk, hi⟩ := good_512 h
  have hin := good_in hk hi
  rw [h] at hin
  have hp : hasP (okV l) mag = true := by
    cases e : hasP (okV l) mag with
    | true => rfl
    | false => rw [in_no0 e] at hin; cases hin
  rw [hasP_iff hi, (okV_is hk hi).1, List.take_take] at hp
  have hm : (87#8) ∈ l := by
    have : (87#8) ∈ l.take (min 3 508) := by rw [hp]; simp [mag]
    exact List.mem_of_mem_take this
  rw [blk, List.take_length]
  have : l.any nz = true := List.any_eq_true.2 ⟨87#8, hm, by decide⟩
  rw [this]; simp
theorem pgR_g (l : List (BitVec 8)) : pgR l = 0 ∧ pgGood l = true ∨ pgR l = 2 ∧ pgGood l = false := by
  cases h : pgGood l with
  | true => left; simp [pgR, h]
  | false => right; simp [pgR, h]
set_option maxHeartbeats 4000000 in
set_option maxRecDepth 100000 in
theorem good_awake  : Good Try.prog 54 [] [] [(.b true, false)] [] := by
  refine good_of_body2 44 Try.func54 rfl rfl rfl (by simp) ?_
  intro s m ha hr hv hG
  clear ha
  refine AW.seq ?_
  refine AW.region (cfg := cfg) ?_
  iterate 1 (apply aops_step (by decide) rfl; · (intro K hK; simp (disch := first | omega | decide) only [go_sem, cellsOf_page, pa_put, pa_len, rep_bsl0]; exact hK _))
  refine aops_nil ?_
  refine AW.seq ?_
  refine AW.region (cfg := cfg) ?_
  apply aops_step (by decide) rfl
  · intro K hK
    rw [act_bs el25 ti5]
    first | (simp [-List.map_take, -List.map_drop, -BitVec.toNat_ofInt, -BitVec.ofInt_natCast, -BitVec.toNat_setWidth, -BitVec.toNat_ushiftRight, -BitVec.toNat_umod, -BitVec.toNat_udiv, go_sem, elems_v, cellishAV, Value.oneCell', isAggAV, partsOf, TI.z, TI.mk1]; exact hK _) | (simp (disch := first | omega | decide) only [go_sem, List.map, elems_cons, cellsOf_page, pa_put, pa_len, rep_bsl0]; rw [if_pos (by decide)]; simp (disch := first | omega | decide) only [go_sem, List.map, elems_cons, cellsOf_page, pa_put, pa_len, rep_bsl0]; rw [mwp_reify_own (by simp (disch := first | omega | decide) only [go_sem, List.map, elems_cons, cellsOf_page, pa_put, pa_len, rep_bsl0]; rfl)]; (first | rw [sub_full (by simp)] | skip); simp [-List.map_take, -List.map_drop, -BitVec.toNat_ofInt, go_sem, cellishAV, Value.oneCell', isAggAV, partsOf, TI.z, TI.mk1, mwp_if, sub]; exact hK _)
  apply aops_step (by decide) rfl
  · intro K hK
    simp (disch := first | omega | decide) only [go_sem, act_build_t ti47 pl47, List.map, cellsOf_page, pa_put, pa_len, rep_bsl0]
    simp [-List.map_take, -List.map_drop, fillL, okOne, cellishAV, Value.oneCell', cellsL, cellsOf, setAt, M.bind, Mwp, mset_same, Obj.isArr]
    exact hK _
  apply aops_step (by decide) rfl
  · intro K hK
    simp (disch := first | omega | decide) only [go_sem, act_call, List.map, cellsOf_page, pa_put, pa_len, rep_bsl0]
    apply mwp_call_r rfl rfl rfl
    · intro Q hQ
      first | (simp (disch := first | omega | decide) only [go_sem, peekL, reifyL_nil, reifyL_cons, reify_v, cellsOf_page, pa_put, pa_len, rep_bsl0]; (first | exact hQ | (((first | rw [peek_own (by simp (disch := first | omega | decide) only [go_sem, peekL, reifyL_nil, reifyL_cons, reify_v, cellsOf_page, pa_put, pa_len, rep_bsl0]; rfl)] | rw [mwp_reify_own (by simp (disch := first | omega | decide) only [go_sem, peekL, reifyL_nil, reifyL_cons, reify_v, cellsOf_page, pa_put, pa_len, rep_bsl0]; rfl)] | rw [peek_frz (by simp (disch := first | omega | decide) only [go_sem, peekL, reifyL_nil, reifyL_cons, reify_v, cellsOf_page, pa_put, pa_len, rep_bsl0]; rfl)] | rw [reify_frz (by simp (disch := first | omega | decide) only [go_sem, peekL, reifyL_nil, reifyL_cons, reify_v, cellsOf_page, pa_put, pa_len, rep_bsl0]; rfl)]); (try rw [sub_full (by first | rfl | (simp only [List.length_map, List.length_replicate]; done) | (simp; done) | (simp; omega))])); exact hQ) | (((first | rw [peek_own (by simp (disch := first | omega | decide) only [go_sem, peekL, reifyL_nil, reifyL_cons, reify_v, cellsOf_page, pa_put, pa_len, rep_bsl0]; rfl)] | rw [mwp_reify_own (by simp (disch := first | omega | decide) only [go_sem, peekL, reifyL_nil, reifyL_cons, reify_v, cellsOf_page, pa_put, pa_len, rep_bsl0]; rfl)] | rw [peek_frz (by simp (disch := first | omega | decide) only [go_sem, peekL, reifyL_nil, reifyL_cons, reify_v, cellsOf_page, pa_put, pa_len, rep_bsl0]; rfl)] | rw [reify_frz (by simp (disch := first | omega | decide) only [go_sem, peekL, reifyL_nil, reifyL_cons, reify_v, cellsOf_page, pa_put, pa_len, rep_bsl0]; rfl)]); (try rw [sub_full (by first | rfl | (simp only [List.length_map, List.length_replicate]; done) | (simp; done) | (simp; omega))])); (try simp (disch := first | omega | decide) only [go_sem, peekL, reifyL_nil, reifyL_cons, reify_v, cellsOf_page, pa_put, pa_len, rep_bsl0]); ((first | rw [peek_own (by simp (disch := first | omega | decide) only [go_sem, peekL, reifyL_nil, reifyL_cons, reify_v, cellsOf_page, pa_put, pa_len, rep_bsl0]; rfl)] | rw [mwp_reify_own (by simp (disch := first | omega | decide) only [go_sem, peekL, reifyL_nil, reifyL_cons, reify_v, cellsOf_page, pa_put, pa_len, rep_bsl0]; rfl)] | rw [peek_frz (by simp (disch := first | omega | decide) only [go_sem, peekL, reifyL_nil, reifyL_cons, reify_v, cellsOf_page, pa_put, pa_len, rep_bsl0]; rfl)] | rw [reify_frz (by simp (disch := first | omega | decide) only [go_sem, peekL, reifyL_nil, reifyL_cons, reify_v, cellsOf_page, pa_put, pa_len, rep_bsl0]; rfl)]); (try rw [sub_full (by first | rfl | (simp only [List.length_map, List.length_replicate]; done) | (simp; done) | (simp; omega))])); exact hQ) | (((first | rw [peek_own (by simp (disch := first | omega | decide) only [go_sem, peekL, reifyL_nil, reifyL_cons, reify_v, cellsOf_page, pa_put, pa_len, rep_bsl0]; rfl)] | rw [mwp_reify_own (by simp (disch := first | omega | decide) only [go_sem, peekL, reifyL_nil, reifyL_cons, reify_v, cellsOf_page, pa_put, pa_len, rep_bsl0]; rfl)] | rw [peek_frz (by simp (disch := first | omega | decide) only [go_sem, peekL, reifyL_nil, reifyL_cons, reify_v, cellsOf_page, pa_put, pa_len, rep_bsl0]; rfl)] | rw [reify_frz (by simp (disch := first | omega | decide) only [go_sem, peekL, reifyL_nil, reifyL_cons, reify_v, cellsOf_page, pa_put, pa_len, rep_bsl0]; rfl)]); (try rw [sub_full (by first | rfl | (simp only [List.length_map, List.length_replicate]; done) | (simp; done) | (simp; omega))])); simp (disch := first | omega | decide) only [go_sem, peekL, reifyL_nil, reifyL_cons, reify_v, cellsOf_page, pa_put, pa_len, rep_bsl0]; exact hQ))) | ((try simp only [opn_agg, opn_own, opn_v]); (try simp only [List.drop_zero, List.drop_succ_cons, List.take_succ_cons, List.take_zero]); (repeat (first | rw [mwp_peekL_agg] | rw [mwp_peekL_v] | rw [mwp_peekL_arr (by simp (disch := first | omega | decide) only [go_sem, cellsOf_page, pa_put, pa_len, rep_bsl0]; rfl)] | rw [mwp_peekL_frz (by simp (disch := first | omega | decide) only [go_sem, cellsOf_page, pa_put, pa_len, rep_bsl0]; rfl)] | rw [mwp_peekL_nil] | rw [mwp_reifyL_agg] | rw [mwp_reifyL_v] | rw [mwp_reifyL_arr (by simp (disch := first | omega | decide) only [go_sem, cellsOf_page, pa_put, pa_len, rep_bsl0]; rfl)] | rw [mwp_reifyL_frz (by simp (disch := first | omega | decide) only [go_sem, cellsOf_page, pa_put, pa_len, rep_bsl0]; rfl)] | rw [mwp_reifyL_nil])); (repeat (rw [sub_full (by first | rfl | (simp only [List.length_map, List.length_replicate]; done) | (simp; done) | (simp; omega))])); exact hQ)
    · exact good_PutP pa0 (by simp [pa0])
    · simp [-List.map_take, -List.map_drop, -List.map_append, -List.map_replicate, -List.reduceReplicate, noPtrL, noPtr, noPtrL_bsl, noPtrL_map, sub]
    · rw [resOf_own2 (by first | (simp (disch := decide) only [mset_ne, hr]; done) | simp [Mem.set, hr])]
      exact hK _
  iterate 3 (apply aops_step (by decide) rfl; · (intro K hK; simp (disch := first | omega | decide) only [go_sem, cellsOf_page, pa_put, pa_len, rep_bsl0]; exact hK _))
  apply aops_step (by decide) rfl
  · intro K hK
    simp (disch := first | omega | decide) only [go_sem, cellsOf_page, pa_put, pa_len, rep_bsl0]
    rw [asg_tmp (by simp (disch := first | omega | decide) only [go_sem, cellsOf_page, pa_put, pa_len, rep_bsl0]; rfl)]
    exact hK _
  iterate 1 (apply aops_step (by decide) rfl; · (intro K hK; simp (disch := first | omega | decide) only [go_sem, cellsOf_page, pa_put, pa_len, rep_bsl0]; exact hK _))
  refine aops_nil ?_
  refine AW.seq ?_
  obtain ⟨pb1, pb2, pb3⟩ := page_back pa_ok
  have pb4 : pgV (pgPut pa0) = ⟨1, 0, 0, 0, 0, 1, false, [7#8]⟩ := pb2
  have pb5 : (!pageOK pa0) = false := by rw [pa_ok]; rfl
  have pb6 : (decide ((((List.replicate 512 0#8).length : Nat) : Int) = 512) && !((List.replicate 512 0#8).any nz)) = true := by rw [zeros_any, List.length_replicate]; rfl
  refine AW.region (cfg := cfg) ?_
  iterate 1 (apply aops_step (by decide) rfl; · (intro K hK; simp (disch := first | omega | decide) only [go_sem, pb3, pb4, pb5, pb6, cellsOf_page, pa_put, pa_len, rep_bsl0]; exact hK _))
  apply aops_step (by decide) rfl
  · intro K hK
    simp (disch := first | omega | decide) only [go_sem, pb3, pb4, pb5, pb6, act_call, List.map, cellsOf_page, pa_put, pa_len, rep_bsl0]
    apply mwp_call_r rfl rfl rfl
    · intro Q hQ
      first | (simp (disch := first | omega | decide) only [go_sem, pb3, pb4, pb5, pb6, peekL, reifyL_nil, reifyL_cons, reify_v, cellsOf_page, pa_put, pa_len, rep_bsl0]; (first | exact hQ | (((first | rw [peek_own (by simp (disch := first | omega | decide) only [go_sem, pb3, pb4, pb5, pb6, peekL, reifyL_nil, reifyL_cons, reify_v, cellsOf_page, pa_put, pa_len, rep_bsl0]; rfl)] | rw [mwp_reify_own (by simp (disch := first | omega | decide) only [go_sem, pb3, pb4, pb5, pb6, peekL, reifyL_nil, reifyL_cons, reify_v, cellsOf_page, pa_put, pa_len, rep_bsl0]; rfl)] | rw [peek_frz (by simp (disch := first | omega | decide) only [go_sem, pb3, pb4, pb5, pb6, peekL, reifyL_nil, reifyL_cons, reify_v, cellsOf_page, pa_put, pa_len, rep_bsl0]; rfl)] | rw [reify_frz (by simp (disch := first | omega | decide) only [go_sem, pb3, pb4, pb5, pb6, peekL, reifyL_nil, reifyL_cons, reify_v, cellsOf_page, pa_put, pa_len, rep_bsl0]; rfl)]); (try rw [sub_full (by first | rfl | (simp only [List.length_map, List.length_replicate]; done) | (simp; done) | (simp; omega))])); exact hQ) | (((first | rw [peek_own (by simp (disch := first | omega | decide) only [go_sem, pb3, pb4, pb5, pb6, peekL, reifyL_nil, reifyL_cons, reify_v, cellsOf_page, pa_put, pa_len, rep_bsl0]; rfl)] | rw [mwp_reify_own (by simp (disch := first | omega | decide) only [go_sem, pb3, pb4, pb5, pb6, peekL, reifyL_nil, reifyL_cons, reify_v, cellsOf_page, pa_put, pa_len, rep_bsl0]; rfl)] | rw [peek_frz (by simp (disch := first | omega | decide) only [go_sem, pb3, pb4, pb5, pb6, peekL, reifyL_nil, reifyL_cons, reify_v, cellsOf_page, pa_put, pa_len, rep_bsl0]; rfl)] | rw [reify_frz (by simp (disch := first | omega | decide) only [go_sem, pb3, pb4, pb5, pb6, peekL, reifyL_nil, reifyL_cons, reify_v, cellsOf_page, pa_put, pa_len, rep_bsl0]; rfl)]); (try rw [sub_full (by first | rfl | (simp only [List.length_map, List.length_replicate]; done) | (simp; done) | (simp; omega))])); (try simp (disch := first | omega | decide) only [go_sem, pb3, pb4, pb5, pb6, peekL, reifyL_nil, reifyL_cons, reify_v, cellsOf_page, pa_put, pa_len, rep_bsl0]); ((first | rw [peek_own (by simp (disch := first | omega | decide) only [go_sem, pb3, pb4, pb5, pb6, peekL, reifyL_nil, reifyL_cons, reify_v, cellsOf_page, pa_put, pa_len, rep_bsl0]; rfl)] | rw [mwp_reify_own (by simp (disch := first | omega | decide) only [go_sem, pb3, pb4, pb5, pb6, peekL, reifyL_nil, reifyL_cons, reify_v, cellsOf_page, pa_put, pa_len, rep_bsl0]; rfl)] | rw [peek_frz (by simp (disch := first | omega | decide) only [go_sem, pb3, pb4, pb5, pb6, peekL, reifyL_nil, reifyL_cons, reify_v, cellsOf_page, pa_put, pa_len, rep_bsl0]; rfl)] | rw [reify_frz (by simp (disch := first | omega | decide) only [go_sem, pb3, pb4, pb5, pb6, peekL, reifyL_nil, reifyL_cons, reify_v, cellsOf_page, pa_put, pa_len, rep_bsl0]; rfl)]); (try rw [sub_full (by first | rfl | (simp only [List.length_map, List.length_replicate]; done) | (simp; done) | (simp; omega))])); exact hQ) | (((first | rw [peek_own (by simp (disch := first | omega | decide) only [go_sem, pb3, pb4, pb5, pb6, peekL, reifyL_nil, reifyL_cons, reify_v, cellsOf_page, pa_put, pa_len, rep_bsl0]; rfl)] | rw [mwp_reify_own (by simp (disch := first | omega | decide) only [go_sem, pb3, pb4, pb5, pb6, peekL, reifyL_nil, reifyL_cons, reify_v, cellsOf_page, pa_put, pa_len, rep_bsl0]; rfl)] | rw [peek_frz (by simp (disch := first | omega | decide) only [go_sem, pb3, pb4, pb5, pb6, peekL, reifyL_nil, reifyL_cons, reify_v, cellsOf_page, pa_put, pa_len, rep_bsl0]; rfl)] | rw [reify_frz (by simp (disch := first | omega | decide) only [go_sem, pb3, pb4, pb5, pb6, peekL, reifyL_nil, reifyL_cons, reify_v, cellsOf_page, pa_put, pa_len, rep_bsl0]; rfl)]); (try rw [sub_full (by first | rfl | (simp only [List.length_map, List.length_replicate]; done) | (simp; done) | (simp; omega))])); simp (disch := first | omega | decide) only [go_sem, pb3, pb4, pb5, pb6, peekL, reifyL_nil, reifyL_cons, reify_v, cellsOf_page, pa_put, pa_len, rep_bsl0]; exact hQ))) | ((try simp only [opn_agg, opn_own, opn_v]); (try simp only [List.drop_zero, List.drop_succ_cons, List.take_succ_cons, List.take_zero]); (repeat (first | rw [mwp_peekL_agg] | rw [mwp_peekL_v] | rw [mwp_peekL_arr (by simp (disch := first | omega | decide) only [go_sem, pb3, pb4, pb5, pb6, cellsOf_page, pa_put, pa_len, rep_bsl0]; rfl)] | rw [mwp_peekL_frz (by simp (disch := first | omega | decide) only [go_sem, pb3, pb4, pb5, pb6, cellsOf_page, pa_put, pa_len, rep_bsl0]; rfl)] | rw [mwp_peekL_nil] | rw [mwp_reifyL_agg] | rw [mwp_reifyL_v] | rw [mwp_reifyL_arr (by simp (disch := first | omega | decide) only [go_sem, pb3, pb4, pb5, pb6, cellsOf_page, pa_put, pa_len, rep_bsl0]; rfl)] | rw [mwp_reifyL_frz (by simp (disch := first | omega | decide) only [go_sem, pb3, pb4, pb5, pb6, cellsOf_page, pa_put, pa_len, rep_bsl0]; rfl)] | rw [mwp_reifyL_nil])); (repeat (rw [sub_full (by first | rfl | (simp only [List.length_map, List.length_replicate]; done) | (simp; done) | (simp; omega))])); exact hQ)
    · exact good_GetP false (pgPut pa0) (by have := pa_len; omega) (by simp)
    · simp [-List.map_take, -List.map_drop, -List.map_append, -List.map_replicate, -List.reduceReplicate, noPtrL, noPtr, noPtrL_bsl, noPtrL_map, sub]
    · simp (disch := first | omega | decide) only [go_sem, pb3, pb4, pb5, pb6, cellsOf_page, pa_put, pa_len, rep_bsl0]
      exact hK _
  iterate 3 (apply aops_step (by decide) rfl; · (intro K hK; simp (disch := first | omega | decide) only [go_sem, pb3, pb4, pb5, pb6, cellsOf_page, pa_put, pa_len, rep_bsl0]; exact hK _))
  apply aops_step (by decide) rfl
  · intro K hK
    simp (disch := first | omega | decide) only [go_sem, pb3, pb4, pb5, pb6, act_alloc_t ti47, List.map, cellsOf_page, pa_put, pa_len, rep_bsl0]
    exact hK _
  apply aops_step0 rfl
  · intro K hK
    simp (disch := first | omega | decide) only [go_sem, pb3, pb4, pb5, pb6, act_store_t ti47, List.map, cellsOf_page, pa_put, pa_len, rep_bsl0]
    first | rw [mwp_store_g1 (by first | (rw [hG]; rfl) | rfl | (simp only [mset_G, hG]; rfl)) (by simp) rfl rfl] | rw [mwp_store_c (by simp (disch := first | omega | decide) only [go_sem, pb3, pb4, pb5, pb6, cellsOf_page, pa_put, pa_len, rep_bsl0]; rfl) (by rfl) (by rfl) (by rfl) (by simp)] | rw [mwp_store_o (by simp (disch := first | omega | decide) only [go_sem, pb3, pb4, pb5, pb6, cellsOf_page, pa_put, pa_len, rep_bsl0]; rfl) (by simp (disch := first | omega | decide) only [go_sem, pb3, pb4, pb5, pb6, cellsOf_page, pa_put, pa_len, rep_bsl0]; rfl) (by decide) (by simp)] | rw [mwp_aStore_map (by simp (disch := first | omega | decide) only [go_sem, pb3, pb4, pb5, pb6, cellsOf_page, pa_put, pa_len, rep_bsl0]; rfl) (by first | omega | (simp; omega)) (fun _ => rfl) rfl rfl (fun _ => rfl)] | (refine mwp_store_gen (by simp (disch := first | omega | decide) only [go_sem, pb3, pb4, pb5, pb6, cellsOf_page, pa_put, pa_len, rep_bsl0]; rfl) ?_; simp only [cellsL]; (try simp only [List.drop_zero, List.drop_succ_cons, List.take_succ_cons, List.take_zero]); (repeat (first | rw [mwp_settleL_v (by rfl)] | rw [mwp_settleL_own (by simp (disch := first | omega | decide) only [go_sem, pb3, pb4, pb5, pb6, cellsOf_page, pa_put, pa_len, rep_bsl0]; rfl)] | rw [mwp_settleL_frz (by simp (disch := first | omega | decide) only [go_sem, pb3, pb4, pb5, pb6, cellsOf_page, pa_put, pa_len, rep_bsl0]; rfl)] | rw [mwp_settleL_cell (by decide) (by simp (disch := first | omega | decide) only [go_sem, pb3, pb4, pb5, pb6, cellsOf_page, pa_put, pa_len, rep_bsl0]; rfl)] | rw [mwp_settleL_cellf (by decide) (by simp (disch := first | omega | decide) only [go_sem, pb3, pb4, pb5, pb6, cellsOf_page, pa_put, pa_len, rep_bsl0]; rfl)] | rw [mwp_settleL_var (by simp (disch := first | omega | decide) only [go_sem, pb3, pb4, pb5, pb6, cellsOf_page, pa_put, pa_len, rep_bsl0]; rfl)])); rw [mwp_settleL_nil]; refine ⟨by simp (disch := first | omega | decide) only [go_sem, pb3, pb4, pb5, pb6, cellsOf_page, pa_put, pa_len, rep_bsl0] <;> rfl, rfl, by simp, ?_⟩) | skip
    try simp only [setAt, cellsL, cellsOf_agg, cellsOf_base, List.map_cons, List.map_nil, List.set_cons_zero, List.set_cons_succ, Nat.reduceAdd, Nat.zero_add, hG]
    exact hK _
  iterate 1 (apply aops_step (by decide) rfl; · (intro K hK; simp (disch := first | omega | decide) only [go_sem, pb3, pb4, pb5, pb6, cellsOf_page, pa_put, pa_len, rep_bsl0]; exact hK _))
  refine aops_nil ?_
  refine AW.seq ?_
  refine AW.region (cfg := cfg) ?_
  iterate 4 (apply aops_step (by decide) rfl; · (intro K hK; simp (disch := first | omega | decide) only [go_sem, pb3, pb4, pb5, pb6, cellsOf_page, pa_put, pa_len, rep_bsl0]; exact hK _))
  apply aops_step (by decide) rfl
  · intro K hK
    simp (disch := first | omega | decide) only [go_sem, pb3, pb4, pb5, pb6, List.map, List.length_map, aops_len u25, cellsOf_page, pa_put, pa_len, rep_bsl0]
    first | (exact hK _) | ((first | rw [mwp_len_own u25 (by simp (disch := first | omega | decide) only [go_sem, pb3, pb4, pb5, pb6, List.map, cellsOf_page, pa_put, pa_len, rep_bsl0]; rfl)] | rw [mwp_len_frz u25 (by simp (disch := first | omega | decide) only [go_sem, pb3, pb4, pb5, pb6, List.map, cellsOf_page, pa_put, pa_len, rep_bsl0]; rfl)]); (try rw [sub_full (by first | rfl | (simp only [List.length_map, List.length_replicate]; done) | simp)]); (try simp only [List.length_map]); exact hK _)
  iterate 7 (apply aops_step (by decide) rfl; · (intro K hK; simp (disch := first | omega | decide) only [go_sem, pb3, pb4, pb5, pb6, cellsOf_page, pa_put, pa_len, rep_bsl0]; exact hK _))
  apply aops_step (by decide) rfl
  · intro K hK
    simp (disch := first | omega | decide) only [go_sem, pb3, pb4, pb5, pb6, act_fieldAddr_t fo47_6, List.map, cellsOf_page, pa_put, pa_len, rep_bsl0]
    first | rw [mwp_fieldAddr_b (by simp (disch := first | omega | decide) only [go_sem, pb3, pb4, pb5, pb6, cellsOf_page, pa_put, pa_len, rep_bsl0]; rfl)] | skip
    exact hK _
  apply aops_step (by decide) rfl
  · intro K hK
    simp (disch := first | omega | decide) only [go_sem, pb3, pb4, pb5, pb6, act_load_t ti25, List.map, cellsOf_page, pa_put, pa_len, rep_bsl0]
    first | rw [mwp_load_i1 (by rfl)] | rw [mwp_load_is (by simp)] | rw [mwp_load_g1 (by first | (rw [hG]; rfl) | rfl | (simp only [mset_G, hG]; rfl)) (by rfl)] | rw [mwp_load_gs (by first | (rw [hG]; rfl) | rfl | (simp only [mset_G, hG]; rfl)) (by simp)] | rw [mwp_load_bs (by simp (disch := first | omega | decide) only [go_sem, pb3, pb4, pb5, pb6, cellsOf_page, pa_put, pa_len, rep_bsl0]; rfl) (by simp [setAt])] | rw [mwp_load_b1 (by simp (disch := first | omega | decide) only [go_sem, pb3, pb4, pb5, pb6, cellsOf_page, pa_put, pa_len, rep_bsl0]; rfl) (by rfl)] | rw [mwp_aLoad_map (by simp (disch := first | omega | decide) only [go_sem, pb3, pb4, pb5, pb6, cellsOf_page, pa_put, pa_len, rep_bsl0]; rfl) (by first | omega | decide | (simp; omega)) (fun _ => rfl)] | rw [mwp_aLoad_frz (by simp (disch := first | omega | decide) only [go_sem, pb3, pb4, pb5, pb6, cellsOf_page, pa_put, pa_len, rep_bsl0]; rfl) (by first | omega | decide | (simp; omega)) (fun _ => rfl)] | rw [mwp_aLoad_e1 (by simp (disch := first | omega | decide) only [go_sem, pb3, pb4, pb5, pb6, cellsOf_page, pa_put, pa_len, rep_bsl0]; rfl) (by first | rfl | simp) rfl] | rw [mwp_aLoad_f1 (by simp (disch := first | omega | decide) only [go_sem, pb3, pb4, pb5, pb6, cellsOf_page, pa_put, pa_len, rep_bsl0]; rfl) (by rfl) rfl] | skip
    exact hK _
  iterate 4 (apply aops_step (by decide) rfl; · (intro K hK; simp (disch := first | omega | decide) only [go_sem, pb3, pb4, pb5, pb6, List.map, List.length_map, aops_len u25, cellsOf_page, pa_put, pa_len, rep_bsl0]; exact hK _))
  apply aops_step (by decide) rfl
  · intro K hK
    simp (disch := first | omega | decide) only [go_sem, pb3, pb4, pb5, pb6, act_fieldAddr_t fo47_6, List.map, cellsOf_page, pa_put, pa_len, rep_bsl0]
    first | rw [mwp_fieldAddr_b (by simp (disch := first | omega | decide) only [go_sem, pb3, pb4, pb5, pb6, cellsOf_page, pa_put, pa_len, rep_bsl0]; rfl)] | skip
    exact hK _
  apply aops_step (by decide) rfl
  · intro K hK
    simp (disch := first | omega | decide) only [go_sem, pb3, pb4, pb5, pb6, act_load_t ti25, List.map, cellsOf_page, pa_put, pa_len, rep_bsl0]
    first | rw [mwp_load_i1 (by rfl)] | rw [mwp_load_is (by simp)] | rw [mwp_load_g1 (by first | (rw [hG]; rfl) | rfl | (simp only [mset_G, hG]; rfl)) (by rfl)] | rw [mwp_load_gs (by first | (rw [hG]; rfl) | rfl | (simp only [mset_G, hG]; rfl)) (by simp)] | rw [mwp_load_bs (by simp (disch := first | omega | decide) only [go_sem, pb3, pb4, pb5, pb6, cellsOf_page, pa_put, pa_len, rep_bsl0]; rfl) (by simp [setAt])] | rw [mwp_load_b1 (by simp (disch := first | omega | decide) only [go_sem, pb3, pb4, pb5, pb6, cellsOf_page, pa_put, pa_len, rep_bsl0]; rfl) (by rfl)] | rw [mwp_aLoad_map (by simp (disch := first | omega | decide) only [go_sem, pb3, pb4, pb5, pb6, cellsOf_page, pa_put, pa_len, rep_bsl0]; rfl) (by first | omega | decide | (simp; omega)) (fun _ => rfl)] | rw [mwp_aLoad_frz (by simp (disch := first | omega | decide) only [go_sem, pb3, pb4, pb5, pb6, cellsOf_page, pa_put, pa_len, rep_bsl0]; rfl) (by first | omega | decide | (simp; omega)) (fun _ => rfl)] | rw [mwp_aLoad_e1 (by simp (disch := first | omega | decide) only [go_sem, pb3, pb4, pb5, pb6, cellsOf_page, pa_put, pa_len, rep_bsl0]; rfl) (by first | rfl | simp) rfl] | rw [mwp_aLoad_f1 (by simp (disch := first | omega | decide) only [go_sem, pb3, pb4, pb5, pb6, cellsOf_page, pa_put, pa_len, rep_bsl0]; rfl) (by rfl) rfl] | skip
    exact hK _
  apply aops_step (by decide) rfl
  · intro K hK
    simp (disch := first | omega | decide) only [go_sem, pb3, pb4, pb5, pb6, act_indexAddr_s u25 ti5, List.map, cellsOf_page, pa_put, pa_len, rep_bsl0]
    first | rw [mwp_aIndex_own (by simp (disch := first | omega | decide) only [go_sem, pb3, pb4, pb5, pb6, cellsOf_page, pa_put, pa_len, rep_bsl0]; rfl) (by first | omega | (simp; omega)) (by first | omega | decide | (simp; omega))] | rw [mwp_aIndex_frz (by simp (disch := first | omega | decide) only [go_sem, pb3, pb4, pb5, pb6, cellsOf_page, pa_put, pa_len, rep_bsl0]; rfl) (by first | omega | (simp; omega)) (by first | omega | decide | (simp; omega))] | skip
    exact hK _
  apply aops_step (by decide) rfl
  · intro K hK
    simp (disch := first | omega | decide) only [go_sem, pb3, pb4, pb5, pb6, act_load_t ti5, List.map, cellsOf_page, pa_put, pa_len, rep_bsl0]
    first | rw [mwp_load_i1 (by rfl)] | rw [mwp_load_is (by simp)] | rw [mwp_load_g1 (by first | (rw [hG]; rfl) | rfl | (simp only [mset_G, hG]; rfl)) (by rfl)] | rw [mwp_load_gs (by first | (rw [hG]; rfl) | rfl | (simp only [mset_G, hG]; rfl)) (by simp)] | rw [mwp_load_bs (by simp (disch := first | omega | decide) only [go_sem, pb3, pb4, pb5, pb6, cellsOf_page, pa_put, pa_len, rep_bsl0]; rfl) (by simp [setAt])] | rw [mwp_load_b1 (by simp (disch := first | omega | decide) only [go_sem, pb3, pb4, pb5, pb6, cellsOf_page, pa_put, pa_len, rep_bsl0]; rfl) (by rfl)] | rw [mwp_aLoad_map (by simp (disch := first | omega | decide) only [go_sem, pb3, pb4, pb5, pb6, cellsOf_page, pa_put, pa_len, rep_bsl0]; rfl) (by first | omega | decide | (simp; omega)) (fun _ => rfl)] | rw [mwp_aLoad_frz (by simp (disch := first | omega | decide) only [go_sem, pb3, pb4, pb5, pb6, cellsOf_page, pa_put, pa_len, rep_bsl0]; rfl) (by first | omega | decide | (simp; omega)) (fun _ => rfl)] | rw [mwp_aLoad_e1 (by simp (disch := first | omega | decide) only [go_sem, pb3, pb4, pb5, pb6, cellsOf_page, pa_put, pa_len, rep_bsl0]; rfl) (by first | rfl | simp) rfl] | rw [mwp_aLoad_f1 (by simp (disch := first | omega | decide) only [go_sem, pb3, pb4, pb5, pb6, cellsOf_page, pa_put, pa_len, rep_bsl0]; rfl) (by rfl) rfl] | skip
    exact hK _
  iterate 3 (apply aops_step (by decide) rfl; · (intro K hK; simp (disch := first | omega | decide) only [go_sem, pb3, pb4, pb5, pb6, cellsOf_page, pa_put, pa_len, rep_bsl0]; exact hK _))
  apply aops_step (by decide) rfl
  · intro K hK
    rw [act_make el25 ti5]
    simp (disch := first | omega | decide) only [go_sem, pb3, pb4, pb5, pb6, cellsOf_page, pa_put, pa_len, rep_bsl0]
    rw [mwp_make (by first | (simp [roomB]; done) | (simp [roomB]; omega))]
    exact hK _
  apply aops_step (by decide) rfl
  · intro K hK
    simp (disch := first | omega | decide) only [go_sem, pb3, pb4, pb5, pb6, act_call, List.map, cellsOf_page, pa_put, pa_len, rep_bsl0]
    apply mwp_call_s rfl rfl rfl
    · intro Q hQ
      first | (simp (disch := first | omega | decide) only [go_sem, pb3, pb4, pb5, pb6, peekL, reifyL_nil, reifyL_cons, reify_v, cellsOf_page, pa_put, pa_len, rep_bsl0]; (first | exact hQ | (((first | rw [peek_own (by simp (disch := first | omega | decide) only [go_sem, pb3, pb4, pb5, pb6, peekL, reifyL_nil, reifyL_cons, reify_v, cellsOf_page, pa_put, pa_len, rep_bsl0]; rfl)] | rw [mwp_reify_own (by simp (disch := first | omega | decide) only [go_sem, pb3, pb4, pb5, pb6, peekL, reifyL_nil, reifyL_cons, reify_v, cellsOf_page, pa_put, pa_len, rep_bsl0]; rfl)] | rw [peek_frz (by simp (disch := first | omega | decide) only [go_sem, pb3, pb4, pb5, pb6, peekL, reifyL_nil, reifyL_cons, reify_v, cellsOf_page, pa_put, pa_len, rep_bsl0]; rfl)] | rw [reify_frz (by simp (disch := first | omega | decide) only [go_sem, pb3, pb4, pb5, pb6, peekL, reifyL_nil, reifyL_cons, reify_v, cellsOf_page, pa_put, pa_len, rep_bsl0]; rfl)]); (try rw [sub_full (by first | rfl | (simp only [List.length_map, List.length_replicate]; done) | (simp; done) | (simp; omega))])); exact hQ) | (((first | rw [peek_own (by simp (disch := first | omega | decide) only [go_sem, pb3, pb4, pb5, pb6, peekL, reifyL_nil, reifyL_cons, reify_v, cellsOf_page, pa_put, pa_len, rep_bsl0]; rfl)] | rw [mwp_reify_own (by simp (disch := first | omega | decide) only [go_sem, pb3, pb4, pb5, pb6, peekL, reifyL_nil, reifyL_cons, reify_v, cellsOf_page, pa_put, pa_len, rep_bsl0]; rfl)] | rw [peek_frz (by simp (disch := first | omega | decide) only [go_sem, pb3, pb4, pb5, pb6, peekL, reifyL_nil, reifyL_cons, reify_v, cellsOf_page, pa_put, pa_len, rep_bsl0]; rfl)] | rw [reify_frz (by simp (disch := first | omega | decide) only [go_sem, pb3, pb4, pb5, pb6, peekL, reifyL_nil, reifyL_cons, reify_v, cellsOf_page, pa_put, pa_len, rep_bsl0]; rfl)]); (try rw [sub_full (by first | rfl | (simp only [List.length_map, List.length_replicate]; done) | (simp; done) | (simp; omega))])); (try simp (disch := first | omega | decide) only [go_sem, pb3, pb4, pb5, pb6, peekL, reifyL_nil, reifyL_cons, reify_v, cellsOf_page, pa_put, pa_len, rep_bsl0]); ((first | rw [peek_own (by simp (disch := first | omega | decide) only [go_sem, pb3, pb4, pb5, pb6, peekL, reifyL_nil, reifyL_cons, reify_v, cellsOf_page, pa_put, pa_len, rep_bsl0]; rfl)] | rw [mwp_reify_own (by simp (disch := first | omega | decide) only [go_sem, pb3, pb4, pb5, pb6, peekL, reifyL_nil, reifyL_cons, reify_v, cellsOf_page, pa_put, pa_len, rep_bsl0]; rfl)] | rw [peek_frz (by simp (disch := first | omega | decide) only [go_sem, pb3, pb4, pb5, pb6, peekL, reifyL_nil, reifyL_cons, reify_v, cellsOf_page, pa_put, pa_len, rep_bsl0]; rfl)] | rw [reify_frz (by simp (disch := first | omega | decide) only [go_sem, pb3, pb4, pb5, pb6, peekL, reifyL_nil, reifyL_cons, reify_v, cellsOf_page, pa_put, pa_len, rep_bsl0]; rfl)]); (try rw [sub_full (by first | rfl | (simp only [List.length_map, List.length_replicate]; done) | (simp; done) | (simp; omega))])); exact hQ) | (((first | rw [peek_own (by simp (disch := first | omega | decide) only [go_sem, pb3, pb4, pb5, pb6, peekL, reifyL_nil, reifyL_cons, reify_v, cellsOf_page, pa_put, pa_len, rep_bsl0]; rfl)] | rw [mwp_reify_own (by simp (disch := first | omega | decide) only [go_sem, pb3, pb4, pb5, pb6, peekL, reifyL_nil, reifyL_cons, reify_v, cellsOf_page, pa_put, pa_len, rep_bsl0]; rfl)] | rw [peek_frz (by simp (disch := first | omega | decide) only [go_sem, pb3, pb4, pb5, pb6, peekL, reifyL_nil, reifyL_cons, reify_v, cellsOf_page, pa_put, pa_len, rep_bsl0]; rfl)] | rw [reify_frz (by simp (disch := first | omega | decide) only [go_sem, pb3, pb4, pb5, pb6, peekL, reifyL_nil, reifyL_cons, reify_v, cellsOf_page, pa_put, pa_len, rep_bsl0]; rfl)]); (try rw [sub_full (by first | rfl | (simp only [List.length_map, List.length_replicate]; done) | (simp; done) | (simp; omega))])); simp (disch := first | omega | decide) only [go_sem, pb3, pb4, pb5, pb6, peekL, reifyL_nil, reifyL_cons, reify_v, cellsOf_page, pa_put, pa_len, rep_bsl0]; exact hQ))) | ((try simp only [opn_agg, opn_own, opn_v]); (try simp only [List.drop_zero, List.drop_succ_cons, List.take_succ_cons, List.take_zero]); (repeat (first | rw [mwp_peekL_agg] | rw [mwp_peekL_v] | rw [mwp_peekL_arr (by simp (disch := first | omega | decide) only [go_sem, pb3, pb4, pb5, pb6, cellsOf_page, pa_put, pa_len, rep_bsl0]; rfl)] | rw [mwp_peekL_frz (by simp (disch := first | omega | decide) only [go_sem, pb3, pb4, pb5, pb6, cellsOf_page, pa_put, pa_len, rep_bsl0]; rfl)] | rw [mwp_peekL_nil] | rw [mwp_reifyL_agg] | rw [mwp_reifyL_v] | rw [mwp_reifyL_arr (by simp (disch := first | omega | decide) only [go_sem, pb3, pb4, pb5, pb6, cellsOf_page, pa_put, pa_len, rep_bsl0]; rfl)] | rw [mwp_reifyL_frz (by simp (disch := first | omega | decide) only [go_sem, pb3, pb4, pb5, pb6, cellsOf_page, pa_put, pa_len, rep_bsl0]; rfl)] | rw [mwp_reifyL_nil])); (repeat (rw [sub_full (by first | rfl | (simp only [List.length_map, List.length_replicate]; done) | (simp; done) | (simp; omega))])); exact hQ)
    · exact good_Blank false (List.replicate 512 0#8) (by simp)
    · simp [-List.map_take, -List.map_drop, -List.map_append, -List.map_replicate, -List.reduceReplicate, noPtrL, noPtr, noPtrL_bsl, noPtrL_map, sub]
    · rfl
    · exact hK _
  iterate 2 (apply aops_step (by decide) rfl; · (intro K hK; simp (disch := first | omega | decide) only [go_sem, pb3, pb4, pb5, pb6, cellsOf_page, pa_put, pa_len, rep_bsl0]; exact hK _))
  refine aops_nil ?_
  refine AW.ret ?_
  refine ⟨.inr rfl, ?_⟩
  refine leaves_tmp1 0 rfl ?_ (by first | rfl | exact hG | (simp only [mset_G, hG]; done) | (simp only [mset_G, hG]; rfl))
  simp (disch := first | omega | decide) only [go_sem, pb3, pb4, pb5, pb6, cellsOf_page, pa_put, pa_len, rep_bsl0]
  all_goals first | done | rfl | trace_state

end Go.Vai.G
