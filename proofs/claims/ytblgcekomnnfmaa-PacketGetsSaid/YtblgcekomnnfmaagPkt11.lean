import Derived.Test.YtblgcekomnnfmaagPkt7
import Derived.Test.YtblgcekomnnfmaagPkt5
import Derived.Test.YtblgcekomnnfmaagPkt3
import Derived.Test.YtblgcekomnnfmaagPkt4
namespace Go.Vai.P
open Go.Proofs Go.Vai Go.Vai.G Go.Vai.L Go.Vai.O Go.Vai.U Go.Vai.Z
set_option linter.unusedSimpArgs false
set_option linter.unusedVariables false
set_option maxHeartbeats 4000000
set_option maxRecDepth 100000
theorem lsa_refl (x : Lsa) : lsaEq x x = true := by simp [lsaEq]
theorem all_refl (l : List Lsa) : eqAll lsaEq l l = true := by
  rw [eqAll, decide_eq_true rfl, Bool.true_and, List.all_eq_true]
  intro x hx
  obtain ⟨i, hi, rfl⟩ := List.mem_iff_getElem.1 hx
  rw [List.getElem_zip]; exact lsa_refl _
theorem pkEq_refl (p : Pkt) : pkEq p p = true := by simp [pkEq, pkEq7, all_refl]
theorem pk_get {p : Pkt} (h : pktOK p = true) : pkOK (pktS p) = true ∧ pkV (pktS p) = normP p ∧ pkR (pktS p) = 0 := by
  have so := seal_open (pktB p)
  obtain ⟨b1, b2⟩ := pk_back h
  have e := (ps_ok h).1
  have h1 : pkOK (pktS p) = true := by rw [pkOK, e, so.1, so.2, b2]; rfl
  obtain ⟨y1, y2⟩ := pk_yes h1
  exact ⟨h1, by rw [y1, e, so.2, b1], y2⟩
theorem ps_len2 {p : Pkt} (h : pktOK p = true) : (pktS p).length = (pktB p).length + 4 := by rw [(ps_ok h).1, sealS_len]
def p0 : Pkt := ⟨3, 1, 1, 2, 0, 1, 2, true, [], true, [], true, []⟩
theorem p0_ok : pktOK p0 = true := by decide
theorem p0_len : (((pktS p0).length : Nat) : Int) = 23 := by rw [ps_len2 p0_ok]; decide
theorem p0_to : (pkV (pktS p0)).to = 2 := by rw [(pk_get p0_ok).2.1]; rfl
theorem pkV_bd (l : List (BitVec 8)) : (pkV l).hs.length ≤ 255 ∧ (pkV l).xs.length ≤ 255 ∧ (pkV l).ls.length ≤ 255 ∧ ∀ x ∈ (pkV l).ls, x.ls.length ≤ 255 := by
  cases h : pkOK l with
  | true =>
    rw [(pk_yes h).1]
    obtain ⟨i1, i2, i3, i4⟩ := loop_bd (kind := kOf (okV l)) (p := q7 (okV l)) (nOf (okV l)).toNat
    have hn := nOf_bd (okV l)
    exact ⟨Nat.le_trans i1 (by omega), Nat.le_trans i2 (by omega), Nat.le_trans i3 (by omega), i4⟩
  | false =>
    rw [(pk_not h).1]
    exact ⟨by simp [pkt0], by simp [pkt0], by simp [pkt0], fun x hx => by cases hx⟩
theorem good_awake  : Good Try.prog 9 [] [] [(.b true, false)] [] := by
 refine good_of_body4 31 Try.func9 rfl rfl rfl (by simp) (by simp) (by simp [noPtrL, noPtr]) (by rfl) ?_
 intro s m ha hr hv hG
 clear ha
 refine AW.sr (cfg := cfg) ?_
 iterate 1 (apply aops_step (by decide) rfl; · (intro K hK; simp (disch := first | omega | decide) only [go_sem, Bool.not_true]; exact hK _))
 refine aops_nil ?_
 refine AW.seq ?_
 obtain ⟨w1, w2, w3⟩ := pk_get p0_ok
 have w4 := p0_to
 have w5 := p0_len
 have w6 := (ps_ok p0_ok).2
 have w7 := p0_ok
 have w8 : (pktS p0).length ≤ 100 := by omega
 have w9 := pkV_bd (pktS p0)
 refine AW.region (cfg := cfg) ?_
 apply aops_step (by decide) rfl
 ·intro K hK
  simp (disch := first | omega | decide) only [go_sem, w3, w4, w5, w6, w7, act_build_t ti28 pl28, List.map, Bool.not_true]
  simp [-List.map_take, -List.map_drop, fillL, okOne, cellishAV, Value.oneCell', cellsL, cellsOf, setAt, M.bind, Mwp, mset_same, Obj.isArr]
  exact hK _
 apply aops_step (by decide) rfl
 ·intro K hK
  simp (disch := first | omega | decide) only [go_sem, w3, w4, w5, w6, w7, act_call, List.map, Bool.not_true]
  apply mwp_call_r rfl rfl rfl
  ·intro Q hQ
   (simp (disch := first | omega | decide) only [go_sem, w3, w4, w5, w6, w7, peekL, reifyL_nil, reifyL_cons, reify_v, Bool.not_true]; (exact hQ))
  ·exact good_PutK p0 (by decide) (by decide) (by decide) (fun x hx => by cases hx)
  ·simp [-List.map_take, -List.map_drop, -List.map_append, -List.map_replicate, -List.reduceReplicate, noPtrL, noPtr, noPtrL_bsl, noPtrL_map, sub]
  ·rw [resOf_own2 (by (simp (disch := decide) only [mset_ne, hr]; done))]
   exact hK _
 iterate 3 (apply aops_step (by decide) rfl; · (intro K hK; simp (disch := first | omega | decide) only [go_sem, w3, w4, w5, w6, w7, Bool.not_true]; exact hK _))
 apply aops_step (by decide) rfl
 ·intro K hK
  simp (disch := first | omega | decide) only [go_sem, w3, w4, w5, w6, w7, Bool.not_true]
  rw [asg_tmp (by simp (disch := first | omega | decide) only [go_sem, w3, w4, w5, w6, w7, Bool.not_true]; rfl)]
  exact hK _
 iterate 1 (apply aops_step (by decide) rfl; · (intro K hK; simp (disch := first | omega | decide) only [go_sem, w3, w4, w5, w6, w7, Bool.not_true]; exact hK _))
 refine aops_nil ?_
 refine AW.sr (cfg := cfg) ?_
 iterate 1 (apply aops_step (by decide) rfl; · (intro K hK; simp (disch := first | omega | decide) only [go_sem, w3, w4, w5, w6, w7, Bool.not_true]; exact hK _))
 apply aops_step (by decide) rfl
 ·intro K hK
  simp (disch := first | omega | decide) only [go_sem, w3, w4, w5, w6, w7, act_call, List.map, Bool.not_true]
  apply mwp_call_r rfl rfl rfl
  ·intro Q hQ
   (simp (disch := first | omega | decide) only [go_sem, w3, w4, w5, w6, w7, peekL, reifyL_nil, reifyL_cons, reify_v, Bool.not_true]; ((((rw [mwp_reify_own (by simp (disch := first | omega | decide) only [go_sem, w3, w4, w5, w6, w7, peekL, reifyL_nil, reifyL_cons, reify_v, Bool.not_true]; rfl)]); (try rw [sub_full (by rfl)])); exact hQ)))
  ·exact good_GetK false (pktS p0) (by omega) (by simp)
  ·simp [-List.map_take, -List.map_drop, -List.map_append, -List.map_replicate, -List.reduceReplicate, noPtrL, noPtr, noPtrL_bsl, noPtrL_map, sub]
  ·simp (disch := first | omega | decide) only [go_sem, w3, w4, w5, w6, w7, Bool.not_true]
   exact hK _
 iterate 3 (apply aops_step (by decide) rfl; · (intro K hK; simp (disch := first | omega | decide) only [go_sem, w3, w4, w5, w6, w7, Bool.not_true]; exact hK _))
 apply aops_step (by decide) rfl
 ·intro K hK
  simp (disch := first | omega | decide) only [go_sem, w3, w4, w5, w6, w7, act_alloc_t ti28, List.map, Bool.not_true]
  exact hK _
 apply aops_step0 rfl
 ·intro K hK
  simp (disch := first | omega | decide) only [go_sem, w3, w4, w5, w6, w7, act_store_t ti28, List.map, Bool.not_true]
  rw [mwp_store_c (by simp (disch := first | omega | decide) only [go_sem, w3, w4, w5, w6, w7, Bool.not_true]; rfl) (by rfl) (by rfl) (by rfl) (by simp)]
  try simp only [setAt, cellsL, cellsOf_agg, cellsOf_base, List.map_cons, List.map_nil, List.set_cons_zero, List.set_cons_succ, Nat.reduceAdd, Nat.zero_add, hG]
  exact hK _
 iterate 1 (apply aops_step (by decide) rfl; · (intro K hK; simp (disch := first | omega | decide) only [go_sem, w3, w4, w5, w6, w7, Bool.not_true]; exact hK _))
 refine aops_nil ?_
 refine AW.sr (cfg := cfg) ?_
 iterate 4 (apply aops_step (by decide) rfl; · (intro K hK; simp (disch := first | omega | decide) only [go_sem, w3, w4, w5, w6, w7, Bool.not_true]; exact hK _))
 apply aops_step (by decide) rfl
 ·intro K hK
  simp (disch := first | omega | decide) only [go_sem, w3, w4, w5, w6, w7, List.map, List.length_map, aops_len u22, Bool.not_true]
  ((rw [mwp_len_frz u22 (by simp (disch := first | omega | decide) only [go_sem, w3, w4, w5, w6, w7, List.map, Bool.not_true]; rfl)]); (try rw [sub_full (by rfl)]); (try simp only [List.length_map]); exact hK _)
 iterate 7 (apply aops_step (by decide) rfl; · (intro K hK; simp (disch := first | omega | decide) only [go_sem, w3, w4, w5, w6, w7, Bool.not_true]; exact hK _))
 apply aops_step (by decide) rfl
 ·intro K hK
  simp (disch := first | omega | decide) only [go_sem, w3, w4, w5, w6, w7, act_fieldAddr_t fo28_3, List.map, Bool.not_true]
  rw [mwp_fieldAddr_b (by simp only [go_sem, w3, w4, w5, w6, w7, Bool.not_true]; rfl)]
  exact hK _
 apply aops_step (by decide) rfl
 ·intro K hK
  simp (disch := first | omega | decide) only [go_sem, w3, w4, w5, w6, w7, act_load_t ti3, List.map, Bool.not_true]
  rw [mwp_load_b1 (by simp only [go_sem, w3, w4, w5, w6, w7, Bool.not_true]; rfl) (by rfl)]
  exact hK _
 iterate 3 (apply aops_step (by decide) rfl; · (intro K hK; simp (disch := first | omega | decide) only [go_sem, w3, w4, w5, w6, w7, Bool.not_true]; exact hK _))
 refine aops_nil ?_
 refine AW.ret ?_
 refine ⟨.inr rfl, ?_⟩
 apply Exists.intro
 refine leaves_tmp1 0 rfl ?_ (by rfl)
 simp (disch := first | omega | decide) only [go_sem, w3, w4, w5, w6, w7, Bool.not_true]
 all_goals first | done | rfl | trace_state
end Go.Vai.P
