import Derived.Test.YtblgcekomnnfmaagPkt4
import Derived.Test.YtblgcekomnnfmaaVaiD
namespace Go.Vai.P
open Go.Proofs Go.Vai Go.Vai.G Go.Vai.L Go.Vai.O Go.Vai.U Go.Vai.Z
set_option linter.unusedSimpArgs false
set_option linter.unusedVariables false
set_option maxHeartbeats 4000000
set_option maxRecDepth 100000
open Go.Vai.Z (sealS okO okV body seal_open sealS_len ckB ok_ref ok_no)
theorem okV_len (l : List (BitVec 8)) : (okV l).length ≤ l.length := by
  unfold okV; split
  · simp [body]
  · simp
def pktS (p : Pkt) : List (BitVec 8) := if pktOK p then sealS (pktB p) else []
theorem ps_ok {p : Pkt} (h : pktOK p = true) : pktS p = sealS (pktB p) ∧ pktEr p = 0 := by simp [pktS, pktEr, h]
theorem ps_no {p : Pkt} (h : pktOK p = false) : pktS p = [] ∧ pktEr p = 1 := by simp [pktS, pktEr, h]
theorem er_ok (p : Pkt) : decide (pktEr p = 0) = pktOK p := by cases h : pktOK p <;> simp [pktEr, h]
theorem epB_len (p : Pkt) : (epB p).length ≤ 4 ∧ (teB p).length ≤ 4 := by
  unfold epB teB
  constructor <;> split <;> simp [numR_length]
theorem cnt_is (p : Pkt) : (p.hs.length : Int) + (p.xs.length : Int) + (p.ls.length : Int) = cntOf p := rfl
theorem eta_ok {x : Lsa} (h : lsaOK x = true) : lsaOK ⟨x.o, x.s, x.nil, x.ls⟩ = true := h
theorem eta_S {x : Lsa} (h : lsaOK x = true) : lsaS ⟨x.o, x.s, x.nil, x.ls⟩ = lsaB x := by rw [lsaS, eta_ok h]; rfl
theorem good_PutK (p : Pkt) (hp1 : p.hs.length ≤ 9223372036854775807) (hp2 : p.xs.length ≤ 9223372036854775807) (hp3 : p.ls.length ≤ 9223372036854775807) (hp4 : ∀ x ∈ p.ls, x.ls.length ≤ 9223372036854775807) : Good Try.prog 13 [(pktA p, false)] [] [(.sl 1 (!pktOK p) (bsl (pktS p)), true), (i64 (pktEr p), false)] [] := by
 refine good_of_body3 124 Try.func13 rfl rfl rfl (by simp) ?_
 intro s m ha hr hv hG
 have f0 : s 0 = .v (.agg [i64 p.kind, i64 p.fr, i64 p.boot, i64 p.to, i64 p.tb, i64 p.ep, i64 p.te, .sl 2 p.hn (p.hs.map linkA), .sl 2 p.xn (p.xs.map linkA), .sl 3 p.ln (p.ls.map lsaA)]) := ha 0 _ rfl
 clear ha
 refine AW.sr (cfg := cfg) ?_
 apply aops_step (by decide) rfl
 ·intro K hK
  simp (disch := first | omega | decide) only [go_sem, f0, act_box_t ti28, List.map, numS1, numS4, numS8, nm1, nm4, nm8, Bool.false_and, List.append_assoc, List.nil_append, cnt_is]
  rw [settleL_vish _ _ (by rfl)]
  simp (disch := first | omega | decide) only [go_sem, f0, cellsL, List.map, List.length_cons, List.length_nil, Nat.reduceAdd, if_true, numS1, numS4, numS8, nm1, nm4, nm8, Bool.false_and, List.append_assoc, List.nil_append, cnt_is]
  exact hK _
 iterate 2 (apply aops_step (by decide) rfl; · (intro K hK; simp (disch := first | omega | decide) only [go_sem, f0, sz22, numS1, numS4, numS8, nm1, nm4, nm8, Bool.false_and, List.append_assoc, List.nil_append, cnt_is]; exact hK _))
 refine aops_nil ?_
 refine AW.seq ?_
 refine AW.sr (cfg := cfg) ?_
 apply aops_step (by decide) rfl
 ·intro K hK
  simp (disch := first | omega | decide) only [go_sem, f0, act_load_t ti28, List.map, numS1, numS4, numS8, nm1, nm4, nm8, Bool.false_and, List.append_assoc, List.nil_append, cnt_is]
  rw [mwp_load_bs (by simp (disch := first | omega | decide) only [go_sem, f0, numS1, numS4, numS8, nm1, nm4, nm8, Bool.false_and, List.append_assoc, List.nil_append, cnt_is]; rfl) (by simp [setAt])]
  exact hK _
 apply aops_step (by decide) rfl
 ·intro K hK
  simp (disch := first | omega | decide) only [go_sem, f0, act_call, List.map, numS1, numS4, numS8, nm1, nm4, nm8, Bool.false_and, List.append_assoc, List.nil_append, cnt_is]
  apply mwp_call_s rfl rfl rfl
  ·intro Q hQ
   (simp (disch := first | omega | decide) only [go_sem, f0, peekL, reifyL_nil, reifyL_cons, reify_v, numS1, numS4, numS8, nm1, nm4, nm8, Bool.false_and, List.append_assoc, List.nil_append, cnt_is]; (exact hQ))
  ·exact good_Check _ (by omega) (by omega) (by omega) (by assumption)
  ·simp [-List.map_take, -List.map_drop, -List.map_append, -List.map_replicate, -List.reduceReplicate, noPtrL, noPtr, noPtrL_bsl, noPtrL_map, sub]
  ·rfl
  ·exact hK _
 iterate 1 (apply aops_step (by decide) rfl; · (intro K hK; simp (disch := first | omega | decide) only [go_sem, f0, numS1, numS4, numS8, nm1, nm4, nm8, Bool.false_and, List.append_assoc, List.nil_append, cnt_is]; exact hK _))
 refine aops_nil ?_
 refine AW.sr (cfg := cfg) ?_
 iterate 2 (apply aops_step (by decide) rfl; · (intro K hK; simp (disch := first | omega | decide) only [go_sem, f0, numS1, numS4, numS8, nm1, nm4, nm8, Bool.false_and, List.append_assoc, List.nil_append, cnt_is]; exact hK _))
 refine aops_nil ?_
 apply AW.cond
 ·(simp only [go_sem, f0, numS1, numS4, numS8, nm1, nm4, nm8, Bool.false_and, List.append_assoc, List.nil_append, cnt_is]; rfl)
 case ht =>
  intro hb
  try simp only [bo1, bo2, bo3, bo4, bo5, bo6] at hb
  have hbt15 := hb
  refine AW.sr (cfg := cfg) ?_
  iterate 3 (apply aops_step (by decide) rfl; · (intro K hK; simp (disch := first | omega | decide) only [go_sem, f0, sz22, numS1, numS4, numS8, nm1, nm4, nm8, Bool.false_and, List.append_assoc, List.nil_append, cnt_is]; exact hK _))
  refine aops_nil ?_
  refine AW.ret ?_
  refine ⟨.inr rfl, ?_⟩
  all_goals (have z : pktOK p = false := (by have y := er_ok p; rw [← y]; exact decide_eq_false hbt15); obtain ⟨e8, e9⟩ := ps_no z; rw [z, e8, e9]; refine leavesN (leaves_own2 2 3 rfl (by simp (disch := first | omega | decide) only [go_sem, f0, numS1, numS4, numS8, nm1, nm4, nm8, Bool.false_and, List.append_assoc, List.nil_append, cnt_is] <;> rfl) (by simp (disch := first | omega | decide) only [go_sem, f0, numS1, numS4, numS8, nm1, nm4, nm8, Bool.false_and, List.append_assoc, List.nil_append, cnt_is] <;> rfl) (by simp (disch := first | omega | decide) only [go_sem, f0, numS1, numS4, numS8, nm1, nm4, nm8, Bool.false_and, List.append_assoc, List.nil_append, cnt_is] <;> rfl) (by decide) (by simp [sub]) (by exact hG)))
 case hf =>
  intro hb
  try simp only [bo1, bo2, bo3, bo4, bo5, bo6] at hb
  have hbt15 := hb
  refine AW.skip ?_
  refine AW.seq ?_
  have hok : pktOK p = true := by (have z := hbt15; have y := er_ok p; rw [← y]; exact decide_eq_true (Decidable.not_not.1 z))
  obtain ⟨c1, c2, c3, c4, c5, c6, c7⟩ := pk_bd hok
  obtain ⟨d1, d2, d3, d4, d5, d6, d7⟩ := pk_len hok
  have ht := topB_len p
  have ht2 := epB_len p
  have hpb := pktB_len hok
  have hls := lsasB_len d5
  refine AW.draw (cfg := cfg) (by kernel_rfl) (by kernel_rfl) (by kernel_rfl) ?_
  apply adraw_step rfl
  ·intro K hK
   simp (disch := first | omega | decide) only [go_sem, f0, act_fieldAddr_t fo28_0, List.map, numS1, numS4, numS8, nm1, nm4, nm8, Bool.false_and, List.append_assoc, List.nil_append, cnt_is]
   rw [mwp_fieldAddr_b (by simp (disch := first | omega | decide) only [go_sem, f0, numS1, numS4, numS8, nm1, nm4, nm8, Bool.false_and, List.append_assoc, List.nil_append, cnt_is]; rfl)]
   exact hK
  apply adraw_step rfl
  ·intro K hK
   simp (disch := first | omega | decide) only [go_sem, f0, act_load_t ti3, List.map, numS1, numS4, numS8, nm1, nm4, nm8, Bool.false_and, List.append_assoc, List.nil_append, cnt_is]
   rw [mwp_load_b1 (by simp (disch := first | omega | decide) only [go_sem, f0, numS1, numS4, numS8, nm1, nm4, nm8, Bool.false_and, List.append_assoc, List.nil_append, cnt_is]; rfl) (by rfl)]
   exact hK
  iterate 1 (apply adraw_step rfl; · (intro K hK; simp (disch := first | omega | decide) only [go_sem, f0, act_convI u3 u71, numS1, numS4, numS8, nm1, nm4, nm8, Bool.false_and, List.append_assoc, List.nil_append, cnt_is]; exact hK))
  apply adraw_step rfl
  ·intro K hK
   simp (disch := first | omega | decide) only [go_sem, f0, act_call, List.map, numS1, numS4, numS8, nm1, nm4, nm8, Bool.false_and, List.append_assoc, List.nil_append, cnt_is]
   apply mwp_call_r rfl rfl rfl
   ·intro Q hQ
    (simp (disch := first | omega | decide) only [go_sem, f0, peekL, reifyL_nil, reifyL_cons, reify_v, numS1, numS4, numS8, nm1, nm4, nm8, Bool.false_and, List.append_assoc, List.nil_append, cnt_is]; (exact hQ))
   ·exact (O.good_Num true [] (by simp) (by simp) 1 p.kind (by omega)).nil0
   ·simp [-List.map_take, -List.map_drop, -List.map_append, -List.map_replicate, -List.reduceReplicate, noPtrL, noPtr, noPtrL_bsl, noPtrL_map, sub]
   ·rw [resOf_own1 (by (simp (disch := decide) only [mset_ne, hr]; done))]
    exact hK
  apply adraw_step rfl
  ·intro K hK
   simp (disch := first | omega | decide) only [go_sem, f0, act_fieldAddr_t fo28_1, List.map, numS1, numS4, numS8, nm1, nm4, nm8, Bool.false_and, List.append_assoc, List.nil_append, cnt_is]
   rw [mwp_fieldAddr_b (by simp (disch := first | omega | decide) only [go_sem, f0, numS1, numS4, numS8, nm1, nm4, nm8, Bool.false_and, List.append_assoc, List.nil_append, cnt_is]; rfl)]
   exact hK
  apply adraw_step rfl
  ·intro K hK
   simp (disch := first | omega | decide) only [go_sem, f0, act_load_t ti3, List.map, numS1, numS4, numS8, nm1, nm4, nm8, Bool.false_and, List.append_assoc, List.nil_append, cnt_is]
   rw [mwp_load_b1 (by simp (disch := first | omega | decide) only [go_sem, f0, numS1, numS4, numS8, nm1, nm4, nm8, Bool.false_and, List.append_assoc, List.nil_append, cnt_is]; rfl) (by rfl)]
   exact hK
  iterate 1 (apply adraw_step rfl; · (intro K hK; simp (disch := first | omega | decide) only [go_sem, f0, act_convI u3 u71, numS1, numS4, numS8, nm1, nm4, nm8, Bool.false_and, List.append_assoc, List.nil_append, cnt_is]; exact hK))
  apply adraw_step rfl
  ·intro K hK
   simp (disch := first | omega | decide) only [go_sem, f0, act_call, List.map, numS1, numS4, numS8, nm1, nm4, nm8, Bool.false_and, List.append_assoc, List.nil_append, cnt_is]
   apply mwp_call_r rfl rfl rfl
   ·intro Q hQ
    (simp (disch := first | omega | decide) only [go_sem, f0, peekL, reifyL_nil, reifyL_cons, reify_v, numS1, numS4, numS8, nm1, nm4, nm8, Bool.false_and, List.append_assoc, List.nil_append, cnt_is]; ((((rw [mwp_reify_own (by simp only [go_sem, f0, peekL, reifyL_nil, reifyL_cons, reify_v, numS1, numS4, numS8, nm1, nm4, nm8, Bool.false_and, List.append_assoc, List.nil_append, cnt_is]; rfl)]); (try rw [sub_full (by rfl)])); exact hQ)))
   ·exact O.good_Num false (numR p.kind 1) (by (simp [headB_len, linksB_len, itemsB_len, numR_length, List.length_append]; done)) (by simp) 1 p.fr (by omega)
   ·simp [-List.map_take, -List.map_drop, -List.map_append, -List.map_replicate, -List.reduceReplicate, noPtrL, noPtr, noPtrL_bsl, noPtrL_map, sub]
   ·rw [resOf_own1 (by (simp (disch := decide) only [mset_ne, hr]; done))]
    exact hK
  apply adraw_step rfl
  ·intro K hK
   simp (disch := first | omega | decide) only [go_sem, f0, numS1, numS4, numS8, nm1, nm4, nm8, Bool.false_and, List.append_assoc, List.nil_append, cnt_is]
   rw [asg_tmp (by simp (disch := first | omega | decide) only [go_sem, f0, numS1, numS4, numS8, nm1, nm4, nm8, Bool.false_and, List.append_assoc, List.nil_append, cnt_is]; rfl)]
   exact hK
  refine adraw_nil (by kernel_rfl) ?_
  refine AW.seq ?_
  refine AW.draw (cfg := cfg) (by kernel_rfl) (by kernel_rfl) (by kernel_rfl) ?_
  iterate 1 (apply adraw_step rfl; · (intro K hK; simp (disch := first | omega | decide) only [go_sem, f0, numS1, numS4, numS8, nm1, nm4, nm8, Bool.false_and, List.append_assoc, List.nil_append, cnt_is]; exact hK))
  apply adraw_step rfl
  ·intro K hK
   simp (disch := first | omega | decide) only [go_sem, f0, act_fieldAddr_t fo28_2, List.map, numS1, numS4, numS8, nm1, nm4, nm8, Bool.false_and, List.append_assoc, List.nil_append, cnt_is]
   rw [mwp_fieldAddr_b (by simp (disch := first | omega | decide) only [go_sem, f0, numS1, numS4, numS8, nm1, nm4, nm8, Bool.false_and, List.append_assoc, List.nil_append, cnt_is]; rfl)]
   exact hK
  apply adraw_step rfl
  ·intro K hK
   simp (disch := first | omega | decide) only [go_sem, f0, act_load_t ti3, List.map, numS1, numS4, numS8, nm1, nm4, nm8, Bool.false_and, List.append_assoc, List.nil_append, cnt_is]
   rw [mwp_load_b1 (by simp (disch := first | omega | decide) only [go_sem, f0, numS1, numS4, numS8, nm1, nm4, nm8, Bool.false_and, List.append_assoc, List.nil_append, cnt_is]; rfl) (by rfl)]
   exact hK
  iterate 1 (apply adraw_step rfl; · (intro K hK; simp (disch := first | omega | decide) only [go_sem, f0, act_convI u3 u71, numS1, numS4, numS8, nm1, nm4, nm8, Bool.false_and, List.append_assoc, List.nil_append, cnt_is]; exact hK))
  apply adraw_step rfl
  ·intro K hK
   simp (disch := first | omega | decide) only [go_sem, f0, act_call, List.map, numS1, numS4, numS8, nm1, nm4, nm8, Bool.false_and, List.append_assoc, List.nil_append, cnt_is]
   apply mwp_call_r rfl rfl rfl
   ·intro Q hQ
    (simp (disch := first | omega | decide) only [go_sem, f0, peekL, reifyL_nil, reifyL_cons, reify_v, numS1, numS4, numS8, nm1, nm4, nm8, Bool.false_and, List.append_assoc, List.nil_append, cnt_is]; ((((rw [mwp_reify_own (by simp (disch := first | omega | decide) only [go_sem, f0, peekL, reifyL_nil, reifyL_cons, reify_v, numS1, numS4, numS8, nm1, nm4, nm8, Bool.false_and, List.append_assoc, List.nil_append, cnt_is]; rfl)]); (try rw [sub_full (by rfl)])); exact hQ)))
   ·exact O.good_Num false (numR p.kind 1 ++ numR p.fr 1) (by (simp [headB_len, linksB_len, itemsB_len, numR_length, List.length_append]; done)) (by simp) 4 p.boot (by omega)
   ·simp [-List.map_take, -List.map_drop, -List.map_append, -List.map_replicate, -List.reduceReplicate, noPtrL, noPtr, noPtrL_bsl, noPtrL_map, sub]
   ·rw [resOf_own1 (by (simp (disch := decide) only [mset_ne, hr]; done))]
    exact hK
  apply adraw_step rfl
  ·intro K hK
   simp (disch := first | omega | decide) only [go_sem, f0, act_fieldAddr_t fo28_3, List.map, numS1, numS4, numS8, nm1, nm4, nm8, Bool.false_and, List.append_assoc, List.nil_append, cnt_is]
   rw [mwp_fieldAddr_b (by simp (disch := first | omega | decide) only [go_sem, f0, numS1, numS4, numS8, nm1, nm4, nm8, Bool.false_and, List.append_assoc, List.nil_append, cnt_is]; rfl)]
   exact hK
  apply adraw_step rfl
  ·intro K hK
   simp (disch := first | omega | decide) only [go_sem, f0, act_load_t ti3, List.map, numS1, numS4, numS8, nm1, nm4, nm8, Bool.false_and, List.append_assoc, List.nil_append, cnt_is]
   rw [mwp_load_b1 (by simp (disch := first | omega | decide) only [go_sem, f0, numS1, numS4, numS8, nm1, nm4, nm8, Bool.false_and, List.append_assoc, List.nil_append, cnt_is]; rfl) (by rfl)]
   exact hK
  iterate 1 (apply adraw_step rfl; · (intro K hK; simp (disch := first | omega | decide) only [go_sem, f0, act_convI u3 u71, numS1, numS4, numS8, nm1, nm4, nm8, Bool.false_and, List.append_assoc, List.nil_append, cnt_is]; exact hK))
  apply adraw_step rfl
  ·intro K hK
   simp (disch := first | omega | decide) only [go_sem, f0, act_call, List.map, numS1, numS4, numS8, nm1, nm4, nm8, Bool.false_and, List.append_assoc, List.nil_append, cnt_is]
   apply mwp_call_r rfl rfl rfl
   ·intro Q hQ
    (simp (disch := first | omega | decide) only [go_sem, f0, peekL, reifyL_nil, reifyL_cons, reify_v, numS1, numS4, numS8, nm1, nm4, nm8, Bool.false_and, List.append_assoc, List.nil_append, cnt_is]; ((((rw [mwp_reify_own (by simp only [go_sem, f0, peekL, reifyL_nil, reifyL_cons, reify_v, numS1, numS4, numS8, nm1, nm4, nm8, Bool.false_and, List.append_assoc, List.nil_append, cnt_is]; rfl)]); (try rw [sub_full (by rfl)])); exact hQ)))
   ·exact O.good_Num false (numR p.kind 1 ++ (numR p.fr 1 ++ numR p.boot 4)) (by (simp [headB_len, linksB_len, itemsB_len, numR_length, List.length_append]; done)) (by simp) 1 p.to (by omega)
   ·simp [-List.map_take, -List.map_drop, -List.map_append, -List.map_replicate, -List.reduceReplicate, noPtrL, noPtr, noPtrL_bsl, noPtrL_map, sub]
   ·rw [resOf_own1 (by (simp (disch := decide) only [mset_ne, hr]; done))]
    exact hK
  apply adraw_step rfl
  ·intro K hK
   simp (disch := first | omega | decide) only [go_sem, f0, numS1, numS4, numS8, nm1, nm4, nm8, Bool.false_and, List.append_assoc, List.nil_append, cnt_is]
   rw [asg_tmp (by simp (disch := first | omega | decide) only [go_sem, f0, numS1, numS4, numS8, nm1, nm4, nm8, Bool.false_and, List.append_assoc, List.nil_append, cnt_is]; rfl)]
   exact hK
  refine adraw_nil (by kernel_rfl) ?_
  refine AW.sr (cfg := cfg) ?_
  iterate 1 (apply aops_step (by decide) rfl; · (intro K hK; simp (disch := first | omega | decide) only [go_sem, f0, numS1, numS4, numS8, nm1, nm4, nm8, Bool.false_and, List.append_assoc, List.nil_append, cnt_is]; exact hK _))
  refine aops_fl (by decide) (by decide) fo28_4 ti3 (by simp (disch := first | omega | decide) only [go_sem, f0, numS1, numS4, numS8, nm1, nm4, nm8, Bool.false_and, List.append_assoc, List.nil_append, cnt_is]; rfl) (by simp (disch := first | omega | decide) only [go_sem, f0, numS1, numS4, numS8, nm1, nm4, nm8, Bool.false_and, List.append_assoc, List.nil_append, cnt_is]; rfl) (by rfl) ?_
  iterate 1 (apply aops_step (by decide) rfl; · (intro K hK; simp (disch := first | omega | decide) only [go_sem, f0, act_convI u3 u71, numS1, numS4, numS8, nm1, nm4, nm8, Bool.false_and, List.append_assoc, List.nil_append, cnt_is]; exact hK _))
  apply aops_step (by decide) rfl
  ·intro K hK
   simp (disch := first | omega | decide) only [go_sem, f0, act_call, List.map, numS1, numS4, numS8, nm1, nm4, nm8, Bool.false_and, List.append_assoc, List.nil_append, cnt_is]
   apply mwp_call_r rfl rfl rfl
   ·intro Q hQ
    (simp (disch := first | omega | decide) only [go_sem, f0, peekL, reifyL_nil, reifyL_cons, reify_v, numS1, numS4, numS8, nm1, nm4, nm8, Bool.false_and, List.append_assoc, List.nil_append, cnt_is]; ((((rw [mwp_reify_own (by simp (disch := first | omega | decide) only [go_sem, f0, peekL, reifyL_nil, reifyL_cons, reify_v, numS1, numS4, numS8, nm1, nm4, nm8, Bool.false_and, List.append_assoc, List.nil_append, cnt_is]; rfl)]); (try rw [sub_full (by rfl)])); exact hQ)))
   ·exact O.good_Num false (numR p.kind 1 ++ (numR p.fr 1 ++ (numR p.boot 4 ++ numR p.to 1))) (by (simp [headB_len, linksB_len, itemsB_len, numR_length, List.length_append]; done)) (by simp) 4 p.tb (by omega)
   ·simp [-List.map_take, -List.map_drop, -List.map_append, -List.map_replicate, -List.reduceReplicate, noPtrL, noPtr, noPtrL_bsl, noPtrL_map, sub]
   ·rw [resOf_own1 (by (simp (disch := decide) only [mset_ne, hr]; done))]
    exact hK _
  apply aops_step (by decide) rfl
  ·intro K hK
   simp (disch := first | omega | decide) only [go_sem, f0, numS1, numS4, numS8, nm1, nm4, nm8, Bool.false_and, List.append_assoc, List.nil_append, cnt_is]
   rw [asg_tmp (by simp (disch := first | omega | decide) only [go_sem, f0, numS1, numS4, numS8, nm1, nm4, nm8, Bool.false_and, List.append_assoc, List.nil_append, cnt_is]; rfl)]
   exact hK _
  refine aops_nil ?_
  refine AW.join (fun σ => ∃ s m, σ = ⟨124, s, m⟩ ∧ s 1 = .lptr (.tmp 1 0) (m.objs (.tmp 1 0)).1 0 ∧ (m.objs (.tmp 1 0)).2 = .box [.v (i64 p.kind), .v (i64 p.fr), .v (i64 p.boot), .v (i64 p.to), .v (i64 p.tb), .v (i64 p.ep), .v (i64 p.te), .v (.sl 2 p.hn (p.hs.map linkA)), .v (.sl 2 p.xn (p.xs.map linkA)), .v (.sl 3 p.ln (p.ls.map lsaA))] ∧ s 5 = .own (.var 5) (m.objs (.var 5)).1 0 ((headB p ++ epB p).length) ∧ (m.objs (.var 5)).2 = .arr false 1 (bsl (headB p ++ epB p)) ∧ (∀ i, (m.objs (.res i)).2 = .dead) ∧ m.G = []) ?_ ?_
  ·skip
   refine AW.seq ?_
   have e1 : numR p.kind 1 ++ (numR p.fr 1 ++ (numR p.boot 4 ++ (numR p.to 1 ++ numR p.tb 4))) = headB p := rfl
   refine AW.region (cfg := cfg) ?_
   refine aops_fl (by decide) (by decide) fo28_0 ti3 (by simp only [go_sem, f0, e1, numS1, numS4, numS8, nm1, nm4, nm8, Bool.false_and, List.append_assoc, List.nil_append, cnt_is]; rfl) (by simp only [go_sem, f0, e1, numS1, numS4, numS8, nm1, nm4, nm8, Bool.false_and, List.append_assoc, List.nil_append, cnt_is]; rfl) (by rfl) ?_
   iterate 2 (apply aops_step (by decide) rfl; · (intro K hK; simp (disch := first | omega | decide) only [go_sem, f0, e1, numS1, numS4, numS8, nm1, nm4, nm8, Bool.false_and, List.append_assoc, List.nil_append, cnt_is]; exact hK _))
   refine aops_flm (dg := 42) (by decide) (by decide) (by decide) fo28_0 ti3 rfl (by simp (disch := first | omega | decide) only [go_sem, f0, e1, numS1, numS4, numS8, nm1, nm4, nm8, Bool.false_and, List.append_assoc, List.nil_append, cnt_is]; rfl) (by simp (disch := first | omega | decide) only [go_sem, f0, e1, numS1, numS4, numS8, nm1, nm4, nm8, Bool.false_and, List.append_assoc, List.nil_append, cnt_is]; rfl) (by simp (disch := first | omega | decide) only [go_sem, f0, e1, numS1, numS4, numS8, nm1, nm4, nm8, Bool.false_and, List.append_assoc, List.nil_append, cnt_is]; rfl) (by rfl) ?_
   apply aops_merge' (by decide) (by exact want_of (d := 42) rfl (by simp only [go_sem, f0, e1, opn_cond, numS1, numS4, numS8, nm1, nm4, nm8, Bool.false_and, List.append_assoc, List.nil_append, cnt_is]; rfl))
   ·intro hc K hK
    simp (disch := first | omega | decide) only [go_sem, f0, e1, opn_cond, hc, if_true, numS1, numS4, numS8, nm1, nm4, nm8, Bool.false_and, List.append_assoc, List.nil_append, cnt_is]
    exact hK _
   iterate 1 (apply aops_step (by decide) rfl; · (intro K hK; simp (disch := first | omega | decide) only [go_sem, f0, e1, numS1, numS4, numS8, nm1, nm4, nm8, Bool.false_and, List.append_assoc, List.nil_append, cnt_is]; exact hK _))
   refine aops_nil ?_
   apply AW.cond
   ·(simp only [go_sem, f0, e1, numS1, numS4, numS8, nm1, nm4, nm8, Bool.false_and, List.append_assoc, List.nil_append, cnt_is]; rfl)
   case ht =>
    intro hb
    try simp only [bo1, bo2, bo3, bo4, bo5, bo6] at hb
    have hbt46 := hb
    refine AW.region (cfg := cfg) ?_
    iterate 1 (apply aops_step (by decide) rfl; · (intro K hK; simp (disch := first | omega | decide) only [go_sem, f0, e1, numS1, numS4, numS8, nm1, nm4, nm8, Bool.false_and, List.append_assoc, List.nil_append, cnt_is]; exact hK _))
    refine aops_fl (by decide) (by decide) fo28_5 ti3 (by simp (disch := first | omega | decide) only [go_sem, f0, e1, numS1, numS4, numS8, nm1, nm4, nm8, Bool.false_and, List.append_assoc, List.nil_append, cnt_is]; rfl) (by simp (disch := first | omega | decide) only [go_sem, f0, e1, numS1, numS4, numS8, nm1, nm4, nm8, Bool.false_and, List.append_assoc, List.nil_append, cnt_is]; rfl) (by rfl) ?_
    iterate 1 (apply aops_step (by decide) rfl; · (intro K hK; simp (disch := first | omega | decide) only [go_sem, f0, e1, act_convI u3 u71, numS1, numS4, numS8, nm1, nm4, nm8, Bool.false_and, List.append_assoc, List.nil_append, cnt_is]; exact hK _))
    apply aops_step (by decide) rfl
    ·intro K hK
     simp (disch := first | omega | decide) only [go_sem, f0, e1, act_call, List.map, numS1, numS4, numS8, nm1, nm4, nm8, Bool.false_and, List.append_assoc, List.nil_append, cnt_is]
     apply mwp_call_r rfl rfl rfl
     ·intro Q hQ
      (simp (disch := first | omega | decide) only [go_sem, f0, e1, peekL, reifyL_nil, reifyL_cons, reify_v, numS1, numS4, numS8, nm1, nm4, nm8, Bool.false_and, List.append_assoc, List.nil_append, cnt_is]; ((((rw [mwp_reify_own (by simp (disch := first | omega | decide) only [go_sem, f0, e1, peekL, reifyL_nil, reifyL_cons, reify_v, numS1, numS4, numS8, nm1, nm4, nm8, Bool.false_and, List.append_assoc, List.nil_append, cnt_is]; rfl)]); (try rw [sub_full (by rfl)])); exact hQ)))
     ·exact O.good_Num false (headB p) (by (simp [headB_len, linksB_len, itemsB_len, numR_length, List.length_append]; done)) (by simp) 4 p.ep (by omega)
     ·simp [-List.map_take, -List.map_drop, -List.map_append, -List.map_replicate, -List.reduceReplicate, noPtrL, noPtr, noPtrL_bsl, noPtrL_map, sub]
     ·rw [resOf_own1 (by (simp (disch := decide) only [mset_ne, hr]; done))]
      exact hK _
    apply aops_step (by decide) rfl
    ·intro K hK
     simp (disch := first | omega | decide) only [go_sem, f0, e1, numS1, numS4, numS8, nm1, nm4, nm8, Bool.false_and, List.append_assoc, List.nil_append, cnt_is]
     rw [asg_tmp (by simp (disch := first | omega | decide) only [go_sem, f0, e1, numS1, numS4, numS8, nm1, nm4, nm8, Bool.false_and, List.append_assoc, List.nil_append, cnt_is]; rfl)]
     exact hK _
    refine aops_nil ?_
    refine ⟨_, _, rfl, ?_, ?_, ?_, ?_, (by intro i; simp [Mem.set, hr]), (by exact hG)⟩ <;> try simp (disch := first | omega | decide) only [go_sem, f0, e1, numS1, numS4, numS8, nm1, nm4, nm8, Bool.false_and, List.append_assoc, List.nil_append, cnt_is]
    all_goals first | (rw [epB, if_pos hb]; done) | (rw [epB, if_pos hb]; simp; done)
   case hf =>
    intro hb
    try simp only [bo1, bo2, bo3, bo4, bo5, bo6] at hb
    have hbt46 := hb
    refine AW.skip ?_
    refine ⟨_, _, rfl, ?_, ?_, ?_, ?_, (by intro i; simp [Mem.set, hr]), (by exact hG)⟩ <;> try simp (disch := first | omega | decide) only [go_sem, f0, e1, numS1, numS4, numS8, nm1, nm4, nm8, Bool.false_and, List.append_assoc, List.nil_append, cnt_is]
    all_goals first | (rw [epB, if_neg (by omega), List.append_nil]; done) | (rw [epB, if_neg (by omega)]; simp; done)
  ·clear f0 hr hG
   rintro σ ⟨s, m, rfl, f1, o1, f5, o5, hr, hG⟩
   obtain ⟨g1, o1⟩ : ∃ g, m.objs (.tmp 1 0) = (g, .box [.v (i64 p.kind), .v (i64 p.fr), .v (i64 p.boot), .v (i64 p.to), .v (i64 p.tb), .v (i64 p.ep), .v (i64 p.te), .v (.sl 2 p.hn (p.hs.map linkA)), .v (.sl 2 p.xn (p.xs.map linkA)), .v (.sl 3 p.ln (p.ls.map lsaA))]) := ⟨_, Prod.ext rfl o1⟩
   rw [o1] at f1
   obtain ⟨g5, o5⟩ : ∃ g, m.objs (.var 5) = (g, .arr false 1 (bsl (headB p ++ epB p))) := ⟨_, Prod.ext rfl o5⟩
   rw [o5] at f5
   refine AW.join (fun σ => ∃ s m, σ = ⟨124, s, m⟩ ∧ s 1 = .lptr (.tmp 1 0) (m.objs (.tmp 1 0)).1 0 ∧ (m.objs (.tmp 1 0)).2 = .box [.v (i64 p.kind), .v (i64 p.fr), .v (i64 p.boot), .v (i64 p.to), .v (i64 p.tb), .v (i64 p.ep), .v (i64 p.te), .v (.sl 2 p.hn (p.hs.map linkA)), .v (.sl 2 p.xn (p.xs.map linkA)), .v (.sl 3 p.ln (p.ls.map lsaA))] ∧ s 5 = .own (.var 5) (m.objs (.var 5)).1 0 ((headB p ++ (epB p ++ teB p)).length) ∧ (m.objs (.var 5)).2 = .arr false 1 (bsl (headB p ++ (epB p ++ teB p))) ∧ (∀ i, (m.objs (.res i)).2 = .dead) ∧ m.G = []) ?_ ?_
   ·skip
    refine AW.sr (cfg := cfg) ?_
    refine aops_fl (by decide) (by decide) fo28_0 ti3 (by simp only [go_sem, f1, f5, o1, o5, numS1, numS4, numS8, nm1, nm4, nm8, Bool.false_and, List.append_assoc, List.nil_append, cnt_is]; rfl) (by simp only [go_sem, f1, f5, o1, o5, numS1, numS4, numS8, nm1, nm4, nm8, Bool.false_and, List.append_assoc, List.nil_append, cnt_is]; rfl) (by rfl) ?_
    iterate 1 (apply aops_step (by decide) rfl; · (intro K hK; simp (disch := first | omega | decide) only [go_sem, f1, f5, o1, o5, numS1, numS4, numS8, nm1, nm4, nm8, Bool.false_and, List.append_assoc, List.nil_append, cnt_is]; exact hK _))
    refine aops_nil ?_
    apply AW.cond
    ·(simp only [go_sem, f1, f5, o1, o5, numS1, numS4, numS8, nm1, nm4, nm8, Bool.false_and, List.append_assoc, List.nil_append, cnt_is]; rfl)
    case ht =>
     intro hb
     try simp only [bo1, bo2, bo3, bo4, bo5, bo6] at hb
     have hbt54 := hb
     refine AW.region (cfg := cfg) ?_
     iterate 1 (apply aops_step (by decide) rfl; · (intro K hK; simp (disch := first | omega | decide) only [go_sem, f1, f5, o1, o5, numS1, numS4, numS8, nm1, nm4, nm8, Bool.false_and, List.append_assoc, List.nil_append, cnt_is]; exact hK _))
     refine aops_fl (by decide) (by decide) fo28_6 ti3 (by simp (disch := first | omega | decide) only [go_sem, f1, f5, o1, o5, numS1, numS4, numS8, nm1, nm4, nm8, Bool.false_and, List.append_assoc, List.nil_append, cnt_is]; rfl) (by simp (disch := first | omega | decide) only [go_sem, f1, f5, o1, o5, numS1, numS4, numS8, nm1, nm4, nm8, Bool.false_and, List.append_assoc, List.nil_append, cnt_is]; rfl) (by rfl) ?_
     iterate 1 (apply aops_step (by decide) rfl; · (intro K hK; simp (disch := first | omega | decide) only [go_sem, f1, f5, o1, o5, act_convI u3 u71, numS1, numS4, numS8, nm1, nm4, nm8, Bool.false_and, List.append_assoc, List.nil_append, cnt_is]; exact hK _))
     apply aops_step (by decide) rfl
     ·intro K hK
      simp (disch := first | omega | decide) only [go_sem, f1, f5, o1, o5, act_call, List.map, numS1, numS4, numS8, nm1, nm4, nm8, Bool.false_and, List.append_assoc, List.nil_append, cnt_is]
      apply mwp_call_r rfl rfl rfl
      ·intro Q hQ
       (simp (disch := first | omega | decide) only [go_sem, f1, f5, o1, o5, peekL, reifyL_nil, reifyL_cons, reify_v, numS1, numS4, numS8, nm1, nm4, nm8, Bool.false_and, List.append_assoc, List.nil_append, cnt_is]; ((((rw [mwp_reify_own (by simp only [go_sem, f1, f5, o1, o5, peekL, reifyL_nil, reifyL_cons, reify_v, numS1, numS4, numS8, nm1, nm4, nm8, Bool.false_and, List.append_assoc, List.nil_append, cnt_is]; rfl)]); (try rw [sub_full (by (simp only [List.length_map, List.length_replicate]; done))])); exact hQ)))
      ·exact O.good_Num false (headB p ++ epB p) (by (simp [headB_len, linksB_len, itemsB_len, numR_length, List.length_append]; omega)) (by simp) 4 p.te (by omega)
      ·simp [-List.map_take, -List.map_drop, -List.map_append, -List.map_replicate, -List.reduceReplicate, noPtrL, noPtr, noPtrL_bsl, noPtrL_map, sub]
      ·rw [resOf_own1 (by (simp (disch := decide) only [mset_ne, hr]; done))]
       exact hK _
     apply aops_step (by decide) rfl
     ·intro K hK
      simp (disch := first | omega | decide) only [go_sem, f1, f5, o1, o5, numS1, numS4, numS8, nm1, nm4, nm8, Bool.false_and, List.append_assoc, List.nil_append, cnt_is]
      rw [asg_tmp (by simp (disch := first | omega | decide) only [go_sem, f1, f5, o1, o5, numS1, numS4, numS8, nm1, nm4, nm8, Bool.false_and, List.append_assoc, List.nil_append, cnt_is]; rfl)]
      exact hK _
     refine aops_nil ?_
     refine ⟨_, _, rfl, ?_, ?_, ?_, ?_, (by intro i; simp [Mem.set, hr]), (by exact hG)⟩ <;> try simp (disch := first | omega | decide) only [go_sem, f1, f5, o1, o5, numS1, numS4, numS8, nm1, nm4, nm8, Bool.false_and, List.append_assoc, List.nil_append, cnt_is]
     all_goals first | (rw [teB, if_pos hb]; done) | (rw [teB, if_pos hb]; simp; done)
    case hf =>
     intro hb
     try simp only [bo1, bo2, bo3, bo4, bo5, bo6] at hb
     have hbt54 := hb
     refine AW.skip ?_
     refine ⟨_, _, rfl, ?_, ?_, ?_, ?_, (by intro i; simp [Mem.set, hr]), (by exact hG)⟩ <;> try simp (disch := first | omega | decide) only [go_sem, f1, f5, o1, o5, numS1, numS4, numS8, nm1, nm4, nm8, Bool.false_and, List.append_assoc, List.nil_append, cnt_is]
     all_goals (rw [teB, if_neg hb, List.append_nil]; done)
   ·clear f1 f5 o1 o5 hr hG
    rintro σ ⟨s, m, rfl, f1, o1, f5, o5, hr, hG⟩
    obtain ⟨g1, o1⟩ : ∃ g, m.objs (.tmp 1 0) = (g, .box [.v (i64 p.kind), .v (i64 p.fr), .v (i64 p.boot), .v (i64 p.to), .v (i64 p.tb), .v (i64 p.ep), .v (i64 p.te), .v (.sl 2 p.hn (p.hs.map linkA)), .v (.sl 2 p.xn (p.xs.map linkA)), .v (.sl 3 p.ln (p.ls.map lsaA))]) := ⟨_, Prod.ext rfl o1⟩
    rw [o1] at f1
    obtain ⟨g5, o5⟩ : ∃ g, m.objs (.var 5) = (g, .arr false 1 (bsl (headB p ++ (epB p ++ teB p)))) := ⟨_, Prod.ext rfl o5⟩
    rw [o5] at f5
    refine AW.join (fun σ => ∃ s m, σ = ⟨124, s, m⟩ ∧ s 1 = .lptr (.tmp 1 0) (m.objs (.tmp 1 0)).1 0 ∧ (m.objs (.tmp 1 0)).2 = .box [.v (i64 p.kind), .v (i64 p.fr), .v (i64 p.boot), .v (i64 p.to), .v (i64 p.tb), .v (i64 p.ep), .v (i64 p.te), .v (.sl 2 p.hn (p.hs.map linkA)), .v (.sl 2 p.xn (p.xs.map linkA)), .v (.sl 3 p.ln (p.ls.map lsaA))] ∧ s 5 = .own (.var 5) (m.objs (.var 5)).1 0 ((topB p).length) ∧ (m.objs (.var 5)).2 = .arr false 1 (bsl (topB p)) ∧ (∀ i, (m.objs (.res i)).2 = .dead) ∧ m.G = []) ?_ ?_
    ·skip
     refine AW.sr (cfg := cfg) ?_
     refine aops_fl (by decide) (by decide) fo28_0 ti3 (by simp only [go_sem, f1, f5, o1, o5, numS1, numS4, numS8, nm1, nm4, nm8, Bool.false_and, List.append_assoc, List.nil_append, cnt_is]; rfl) (by simp only [go_sem, f1, f5, o1, o5, numS1, numS4, numS8, nm1, nm4, nm8, Bool.false_and, List.append_assoc, List.nil_append, cnt_is]; rfl) (by rfl) ?_
     iterate 1 (apply aops_step (by decide) rfl; · (intro K hK; simp (disch := first | omega | decide) only [go_sem, f1, f5, o1, o5, numS1, numS4, numS8, nm1, nm4, nm8, Bool.false_and, List.append_assoc, List.nil_append, cnt_is]; exact hK _))
     refine aops_nil ?_
     apply AW.cond
     ·(simp only [go_sem, f1, f5, o1, o5, numS1, numS4, numS8, nm1, nm4, nm8, Bool.false_and, List.append_assoc, List.nil_append, cnt_is]; rfl)
     case ht =>
      intro hb
      try simp only [bo1, bo2, bo3, bo4, bo5, bo6] at hb
      have hbt62 := hb
      refine AW.region (cfg := cfg) ?_
      iterate 1 (apply aops_step (by decide) rfl; · (intro K hK; simp (disch := first | omega | decide) only [go_sem, f1, f5, o1, o5, numS1, numS4, numS8, nm1, nm4, nm8, Bool.false_and, List.append_assoc, List.nil_append, cnt_is]; exact hK _))
      refine aops_fl (by decide) (by decide) fo28_7 ti24 (by simp (disch := first | omega | decide) only [go_sem, f1, f5, o1, o5, numS1, numS4, numS8, nm1, nm4, nm8, Bool.false_and, List.append_assoc, List.nil_append, cnt_is]; rfl) (by simp (disch := first | omega | decide) only [go_sem, f1, f5, o1, o5, numS1, numS4, numS8, nm1, nm4, nm8, Bool.false_and, List.append_assoc, List.nil_append, cnt_is]; rfl) (by rfl) ?_
      iterate 1 (apply aops_step (by decide) rfl; · (intro K hK; simp (disch := first | omega | decide) only [go_sem, f1, f5, o1, o5, List.map, List.length_map, aops_len u24, numS1, numS4, numS8, nm1, nm4, nm8, Bool.false_and, List.append_assoc, List.nil_append, cnt_is]; exact hK _))
      refine aops_fl (by decide) (by decide) fo28_8 ti25 (by simp (disch := first | omega | decide) only [go_sem, f1, f5, o1, o5, numS1, numS4, numS8, nm1, nm4, nm8, Bool.false_and, List.append_assoc, List.nil_append, cnt_is]; rfl) (by simp (disch := first | omega | decide) only [go_sem, f1, f5, o1, o5, numS1, numS4, numS8, nm1, nm4, nm8, Bool.false_and, List.append_assoc, List.nil_append, cnt_is]; rfl) (by rfl) ?_
      iterate 2 (apply aops_step (by decide) rfl; · (intro K hK; simp (disch := first | omega | decide) only [go_sem, f1, f5, o1, o5, List.map, List.length_map, aops_len u25, numS1, numS4, numS8, nm1, nm4, nm8, Bool.false_and, List.append_assoc, List.nil_append, cnt_is]; exact hK _))
      refine aops_fl (by decide) (by decide) fo28_9 ti26 (by simp (disch := first | omega | decide) only [go_sem, f1, f5, o1, o5, numS1, numS4, numS8, nm1, nm4, nm8, Bool.false_and, List.append_assoc, List.nil_append, cnt_is]; rfl) (by simp (disch := first | omega | decide) only [go_sem, f1, f5, o1, o5, numS1, numS4, numS8, nm1, nm4, nm8, Bool.false_and, List.append_assoc, List.nil_append, cnt_is]; rfl) (by rfl) ?_
      iterate 3 (apply aops_step (by decide) rfl; · (intro K hK; simp (disch := first | omega | decide) only [go_sem, f1, f5, o1, o5, List.map, List.length_map, aops_len u26, act_convI u3 u71, numS1, numS4, numS8, nm1, nm4, nm8, Bool.false_and, List.append_assoc, List.nil_append, cnt_is]; exact hK _))
      apply aops_step (by decide) rfl
      ·intro K hK
       simp (disch := first | omega | decide) only [go_sem, f1, f5, o1, o5, act_call, List.map, numS1, numS4, numS8, nm1, nm4, nm8, Bool.false_and, List.append_assoc, List.nil_append, cnt_is]
       apply mwp_call_r rfl rfl rfl
       ·intro Q hQ
        (simp (disch := first | omega | decide) only [go_sem, f1, f5, o1, o5, peekL, reifyL_nil, reifyL_cons, reify_v, numS1, numS4, numS8, nm1, nm4, nm8, Bool.false_and, List.append_assoc, List.nil_append, cnt_is]; ((((rw [mwp_reify_own (by simp only [go_sem, f1, f5, o1, o5, peekL, reifyL_nil, reifyL_cons, reify_v, numS1, numS4, numS8, nm1, nm4, nm8, Bool.false_and, List.append_assoc, List.nil_append, cnt_is]; rfl)]); (try rw [sub_full (by (simp only [List.length_map, List.length_replicate]; done))])); exact hQ)))
       ·exact O.good_Num false (headB p ++ (epB p ++ teB p)) (by (simp [headB_len, linksB_len, itemsB_len, numR_length, List.length_append]; omega)) (by simp) 1 (cntOf p) (by omega)
       ·simp [-List.map_take, -List.map_drop, -List.map_append, -List.map_replicate, -List.reduceReplicate, noPtrL, noPtr, noPtrL_bsl, noPtrL_map, sub]
       ·rw [resOf_own1 (by (simp (disch := decide) only [mset_ne, hr]; done))]
        exact hK _
      apply aops_step (by decide) rfl
      ·intro K hK
       simp (disch := first | omega | decide) only [go_sem, f1, f5, o1, o5, numS1, numS4, numS8, nm1, nm4, nm8, Bool.false_and, List.append_assoc, List.nil_append, cnt_is]
       rw [asg_tmp (by simp (disch := first | omega | decide) only [go_sem, f1, f5, o1, o5, numS1, numS4, numS8, nm1, nm4, nm8, Bool.false_and, List.append_assoc, List.nil_append, cnt_is]; rfl)]
       exact hK _
      refine aops_nil ?_
      refine ⟨_, _, rfl, ?_, ?_, ?_, ?_, (by intro i; simp [Mem.set, hr]), (by exact hG)⟩ <;> try simp (disch := first | omega | decide) only [go_sem, f1, f5, o1, o5, numS1, numS4, numS8, nm1, nm4, nm8, Bool.false_and, List.append_assoc, List.nil_append, cnt_is]
      all_goals first | (rw [topB, cnB, if_neg hb]; done) | (rw [topB, cnB, if_neg hb]; simp; done)
     case hf =>
      intro hb
      try simp only [bo1, bo2, bo3, bo4, bo5, bo6] at hb
      have hbt62 := hb
      refine AW.skip ?_
      refine ⟨_, _, rfl, ?_, ?_, ?_, ?_, (by intro i; simp [Mem.set, hr]), (by exact hG)⟩ <;> try simp (disch := first | omega | decide) only [go_sem, f1, f5, o1, o5, numS1, numS4, numS8, nm1, nm4, nm8, Bool.false_and, List.append_assoc, List.nil_append, cnt_is]
      all_goals (rw [topB, cnB, if_pos (Decidable.not_not.1 hb), List.append_nil]; done)
    ·clear f1 f5 o1 o5 hr hG
     rintro σ ⟨s, m, rfl, f1, o1, f5, o5, hr, hG⟩
     obtain ⟨g1, o1⟩ : ∃ g, m.objs (.tmp 1 0) = (g, .box [.v (i64 p.kind), .v (i64 p.fr), .v (i64 p.boot), .v (i64 p.to), .v (i64 p.tb), .v (i64 p.ep), .v (i64 p.te), .v (.sl 2 p.hn (p.hs.map linkA)), .v (.sl 2 p.xn (p.xs.map linkA)), .v (.sl 3 p.ln (p.ls.map lsaA))]) := ⟨_, Prod.ext rfl o1⟩
     rw [o1] at f1
     obtain ⟨g5, o5⟩ : ∃ g, m.objs (.var 5) = (g, .arr false 1 (bsl (topB p))) := ⟨_, Prod.ext rfl o5⟩
     rw [o5] at f5
     refine AW.seq ?_
     refine AW.sr (cfg := cfg) ?_
     refine aops_fl (by decide) (by decide) fo28_7 ti24 (by simp only [go_sem, f1, f5, o1, o5, numS1, numS4, numS8, nm1, nm4, nm8, Bool.false_and, List.append_assoc, List.nil_append, cnt_is]; rfl) (by simp only [go_sem, f1, f5, o1, o5, numS1, numS4, numS8, nm1, nm4, nm8, Bool.false_and, List.append_assoc, List.nil_append, cnt_is]; rfl) (by rfl) ?_
     iterate 2 (apply aops_step (by decide) rfl; · (intro K hK; simp (disch := first | omega | decide) only [go_sem, f1, f5, o1, o5, List.map, List.length_map, aops_len u24, numS1, numS4, numS8, nm1, nm4, nm8, Bool.false_and, List.append_assoc, List.nil_append, cnt_is]; exact hK _))
     refine aops_nil ?_
     refine AW.block ?_
     refine AW.forN (fun k σ => ∃ s m, σ = ⟨124, s, m⟩ ∧ s 1 = .lptr (.tmp 1 0) (m.objs (.tmp 1 0)).1 0 ∧ (m.objs (.tmp 1 0)).2 = .box [.v (i64 p.kind), .v (i64 p.fr), .v (i64 p.boot), .v (i64 p.to), .v (i64 p.tb), .v (i64 p.ep), .v (i64 p.te), .v (.sl 2 p.hn (p.hs.map linkA)), .v (.sl 2 p.xn (p.xs.map linkA)), .v (.sl 3 p.ln (p.ls.map lsaA))] ∧ s 5 = .own (.var 5) (m.objs (.var 5)).1 0 ((topB p).length + 5 * k) ∧ (m.objs (.var 5)).2 = .arr false 1 (bsl (topB p ++ linksB (p.hs.take k))) ∧ s 78 = .v (.sl 2 p.hn (p.hs.map linkA)) ∧ s 79 = .v (i64 (p.hs.length : Int)) ∧ s 80 = .v (i64 (k : Int)) ∧ (∀ i, (m.objs (.res i)).2 = .dead) ∧ m.G = []) (p.hs.length) ?_ ?_ ?_
     ·refine ⟨_, _, rfl, ?_, ?_, ?_, ?_, ?_, ?_, ?_, (by intro i; simp [Mem.set, hr]), (by exact hG)⟩ <;> try simp (disch := first | omega | decide) only [go_sem, f1, f5, o1, o5, numS1, numS4, numS8, nm1, nm4, nm8, Bool.false_and, List.append_assoc, List.nil_append, cnt_is]
      all_goals first | rfl | (simp [linksB]; done)
     ·clear f1 f5 o1 o5 hr hG
      rintro k σ hk ⟨s, m, rfl, f1, o1, f5, o5, f78, f79, f80, hr, hG⟩
      obtain ⟨g1, o1⟩ : ∃ g, m.objs (.tmp 1 0) = (g, .box [.v (i64 p.kind), .v (i64 p.fr), .v (i64 p.boot), .v (i64 p.to), .v (i64 p.tb), .v (i64 p.ep), .v (i64 p.te), .v (.sl 2 p.hn (p.hs.map linkA)), .v (.sl 2 p.xn (p.xs.map linkA)), .v (.sl 3 p.ln (p.ls.map lsaA))]) := ⟨_, Prod.ext rfl o1⟩
      rw [o1] at f1
      obtain ⟨g5, o5⟩ : ∃ g, m.objs (.var 5) = (g, .arr false 1 (bsl (topB p ++ linksB (p.hs.take k)))) := ⟨_, Prod.ext rfl o5⟩
      rw [o5] at f5
      refine AW.sr (cfg := cfg) ?_
      iterate 1 (apply aops_step (by decide) rfl; · (intro K hK; simp (disch := first | omega | decide) only [go_sem, f1, f5, f78, f79, f80, o1, o5, numS1, numS4, numS8, nm1, nm4, nm8, Bool.false_and, List.append_assoc, List.nil_append, cnt_is]; exact hK _))
      refine aops_nil ?_
      refine AW.seq ?_
      apply AW.cond
      ·(simp only [go_sem, f1, f5, f78, f79, f80, o1, o5, numS1, numS4, numS8, nm1, nm4, nm8, Bool.false_and, List.append_assoc, List.nil_append, cnt_is]; rfl)
      case hf => intro hb; (simp at hb; omega)
      case ht =>
      intro hb
      have hbt81 := hb
      refine AW.skip ?_
      refine AW.seq ?_
      refine AW.block ?_
      refine AW.seq ?_
      have hb1 := d6 _ (List.getElem_mem hk)
      refine AW.region (cfg := cfg) ?_
      apply aops_step (by decide) rfl
      ·intro K hK
       simp (disch := first | omega | decide) only [go_sem, f1, f5, f78, f79, f80, o1, o5, act_indexAddr_s u24 ti74, List.map, numS1, numS4, numS8, nm1, nm4, nm8, Bool.false_and, List.append_assoc, List.nil_append, cnt_is]
       skip
       exact hK _
      apply aops_step (by decide) rfl
      ·intro K hK
       simp (disch := first | omega | decide) only [go_sem, f1, f5, f78, f79, f80, o1, o5, act_load_t ti74, List.map, numS1, numS4, numS8, nm1, nm4, nm8, Bool.false_and, List.append_assoc, List.nil_append, cnt_is]
       rw [mwp_load_is (by simp)]
       exact hK _
      apply aops_step (by decide) rfl
      ·intro K hK
       simp (disch := first | omega | decide) only [go_sem, f1, f5, f78, f79, f80, o1, o5, act_alloc_t ti74, List.map, numS1, numS4, numS8, nm1, nm4, nm8, Bool.false_and, List.append_assoc, List.nil_append, cnt_is]
       exact hK _
      apply aops_step0 rfl
      ·intro K hK
       simp (disch := first | omega | decide) only [go_sem, f1, f5, f78, f79, f80, o1, o5, act_store_t ti74, List.map, numS1, numS4, numS8, nm1, nm4, nm8, Bool.false_and, List.append_assoc, List.nil_append, cnt_is]
       rw [mwp_store_c (by simp (disch := first | omega | decide) only [go_sem, f1, f5, f78, f79, f80, o1, o5, numS1, numS4, numS8, nm1, nm4, nm8, Bool.false_and, List.append_assoc, List.nil_append, cnt_is]; rfl) (by rfl) (by rfl) (by rfl) (by simp)]
       try simp only [setAt, cellsL, cellsOf_agg, cellsOf_base, List.map_cons, List.map_nil, List.set_cons_zero, List.set_cons_succ, Nat.reduceAdd, Nat.zero_add, hG]
       exact hK _
      refine aops_nil ?_
      refine AW.draw (cfg := cfg) (by kernel_rfl) (by kernel_rfl) (by kernel_rfl) ?_
      iterate 1 (apply adraw_step rfl; · (intro K hK; simp (disch := first | omega | decide) only [go_sem, f1, f5, f78, f79, f80, o1, o5, numS1, numS4, numS8, nm1, nm4, nm8, Bool.false_and, List.append_assoc, List.nil_append, cnt_is]; exact hK))
      apply adraw_step rfl
      ·intro K hK
       simp (disch := first | omega | decide) only [go_sem, f1, f5, f78, f79, f80, o1, o5, act_fieldAddr_t fo74_0, List.map, numS1, numS4, numS8, nm1, nm4, nm8, Bool.false_and, List.append_assoc, List.nil_append, cnt_is]
       rw [mwp_fieldAddr_b (by simp only [go_sem, f1, f5, f78, f79, f80, o1, o5, numS1, numS4, numS8, nm1, nm4, nm8, Bool.false_and, List.append_assoc, List.nil_append, cnt_is]; rfl)]
       exact hK
      apply adraw_step rfl
      ·intro K hK
       simp (disch := first | omega | decide) only [go_sem, f1, f5, f78, f79, f80, o1, o5, act_load_t ti3, List.map, numS1, numS4, numS8, nm1, nm4, nm8, Bool.false_and, List.append_assoc, List.nil_append, cnt_is]
       rw [mwp_load_b1 (by simp only [go_sem, f1, f5, f78, f79, f80, o1, o5, numS1, numS4, numS8, nm1, nm4, nm8, Bool.false_and, List.append_assoc, List.nil_append, cnt_is]; rfl) (by rfl)]
       exact hK
      iterate 1 (apply adraw_step rfl; · (intro K hK; simp (disch := first | omega | decide) only [go_sem, f1, f5, f78, f79, f80, o1, o5, act_convI u3 u71, numS1, numS4, numS8, nm1, nm4, nm8, Bool.false_and, List.append_assoc, List.nil_append, cnt_is]; exact hK))
      apply adraw_step rfl
      ·intro K hK
       simp (disch := first | omega | decide) only [go_sem, f1, f5, f78, f79, f80, o1, o5, act_call, List.map, numS1, numS4, numS8, nm1, nm4, nm8, Bool.false_and, List.append_assoc, List.nil_append, cnt_is]
       apply mwp_call_r rfl rfl rfl
       ·intro Q hQ
        (simp (disch := first | omega | decide) only [go_sem, f1, f5, f78, f79, f80, o1, o5, peekL, reifyL_nil, reifyL_cons, reify_v, numS1, numS4, numS8, nm1, nm4, nm8, Bool.false_and, List.append_assoc, List.nil_append, cnt_is]; ((((rw [mwp_reify_own (by simp (disch := first | omega | decide) only [go_sem, f1, f5, f78, f79, f80, o1, o5, peekL, reifyL_nil, reifyL_cons, reify_v, numS1, numS4, numS8, nm1, nm4, nm8, Bool.false_and, List.append_assoc, List.nil_append, cnt_is]; rfl)]); (try rw [sub_full (by (simp [headB_len, linksB_len, itemsB_len, numR_length, List.length_append]; omega))])); exact hQ)))
       ·exact O.good_Num false ((topB p ++ linksB (p.hs.take k))) (by (simp [headB_len, linksB_len, itemsB_len, numR_length, List.length_append]; omega)) (by simp) 1 (p.hs[k]).to (by omega)
       ·simp [-List.map_take, -List.map_drop, -List.map_append, -List.map_replicate, -List.reduceReplicate, noPtrL, noPtr, noPtrL_bsl, noPtrL_map, sub]
       ·rw [resOf_own1 (by (simp (disch := decide) only [mset_ne, hr]; done))]
        exact hK
      apply adraw_step rfl
      ·intro K hK
       simp (disch := first | omega | decide) only [go_sem, f1, f5, f78, f79, f80, o1, o5, act_fieldAddr_t fo74_1, List.map, numS1, numS4, numS8, nm1, nm4, nm8, Bool.false_and, List.append_assoc, List.nil_append, cnt_is]
       rw [mwp_fieldAddr_b (by simp (disch := first | omega | decide) only [go_sem, f1, f5, f78, f79, f80, o1, o5, numS1, numS4, numS8, nm1, nm4, nm8, Bool.false_and, List.append_assoc, List.nil_append, cnt_is]; rfl)]
       exact hK
      apply adraw_step rfl
      ·intro K hK
       simp (disch := first | omega | decide) only [go_sem, f1, f5, f78, f79, f80, o1, o5, act_load_t ti3, List.map, numS1, numS4, numS8, nm1, nm4, nm8, Bool.false_and, List.append_assoc, List.nil_append, cnt_is]
       rw [mwp_load_b1 (by simp (disch := first | omega | decide) only [go_sem, f1, f5, f78, f79, f80, o1, o5, numS1, numS4, numS8, nm1, nm4, nm8, Bool.false_and, List.append_assoc, List.nil_append, cnt_is]; rfl) (by rfl)]
       exact hK
      iterate 1 (apply adraw_step rfl; · (intro K hK; simp (disch := first | omega | decide) only [go_sem, f1, f5, f78, f79, f80, o1, o5, act_convI u3 u71, numS1, numS4, numS8, nm1, nm4, nm8, Bool.false_and, List.append_assoc, List.nil_append, cnt_is]; exact hK))
      apply adraw_step rfl
      ·intro K hK
       simp (disch := first | omega | decide) only [go_sem, f1, f5, f78, f79, f80, o1, o5, act_call, List.map, numS1, numS4, numS8, nm1, nm4, nm8, Bool.false_and, List.append_assoc, List.nil_append, cnt_is]
       apply mwp_call_r rfl rfl rfl
       ·intro Q hQ
        (simp (disch := first | omega | decide) only [go_sem, f1, f5, f78, f79, f80, o1, o5, peekL, reifyL_nil, reifyL_cons, reify_v, numS1, numS4, numS8, nm1, nm4, nm8, Bool.false_and, List.append_assoc, List.nil_append, cnt_is]; ((((rw [mwp_reify_own (by simp only [go_sem, f1, f5, f78, f79, f80, o1, o5, peekL, reifyL_nil, reifyL_cons, reify_v, numS1, numS4, numS8, nm1, nm4, nm8, Bool.false_and, List.append_assoc, List.nil_append, cnt_is]; rfl)]); (try rw [sub_full (by rfl)])); exact hQ)))
       ·exact O.good_Num false (topB p ++ (linksB (p.hs.take k) ++ numR (p.hs[k]).to 1)) (by (simp [headB_len, linksB_len, itemsB_len, numR_length, List.length_append]; omega)) (by simp) 4 (p.hs[k]).co (by omega)
       ·simp [-List.map_take, -List.map_drop, -List.map_append, -List.map_replicate, -List.reduceReplicate, noPtrL, noPtr, noPtrL_bsl, noPtrL_map, sub]
       ·rw [resOf_own1 (by (simp (disch := decide) only [mset_ne, hr]; done))]
        exact hK
      apply adraw_step rfl
      ·intro K hK
       simp (disch := first | omega | decide) only [go_sem, f1, f5, f78, f79, f80, o1, o5, numS1, numS4, numS8, nm1, nm4, nm8, Bool.false_and, List.append_assoc, List.nil_append, cnt_is]
       rw [asg_tmp (by simp (disch := first | omega | decide) only [go_sem, f1, f5, f78, f79, f80, o1, o5, numS1, numS4, numS8, nm1, nm4, nm8, Bool.false_and, List.append_assoc, List.nil_append, cnt_is]; rfl)]
       exact hK
      refine adraw_nil (by kernel_rfl) ?_
      refine AW.region (cfg := cfg) ?_
      iterate 2 (apply aops_step (by decide) rfl; · (intro K hK; simp (disch := first | omega | decide) only [go_sem, f1, f5, f78, f79, f80, o1, o5, numS1, numS4, numS8, nm1, nm4, nm8, Bool.false_and, List.append_assoc, List.nil_append, cnt_is]; exact hK _))
      refine aops_nil ?_
      refine ⟨_, _, rfl, ?_, ?_, ?_, ?_, ?_, ?_, ?_, (by intro i; simp [Mem.set, hr]), (by exact hG)⟩ <;> try simp (disch := first | omega | decide) only [go_sem, f1, f5, f78, f79, f80, o1, o5, numS1, numS4, numS8, nm1, nm4, nm8, Bool.false_and, List.append_assoc, List.nil_append, cnt_is]
      all_goals first | rfl | (rw [linksB_take hk]; simp [linkB]; done) | (simp [linksB_len, numR_length]; omega)
     ·clear f1 f5 o1 o5 hr hG
      rintro σ ⟨s, m, rfl, f1, o1, f5, o5, f78, f79, f80, hr, hG⟩
      obtain ⟨g1, o1⟩ : ∃ g, m.objs (.tmp 1 0) = (g, .box [.v (i64 p.kind), .v (i64 p.fr), .v (i64 p.boot), .v (i64 p.to), .v (i64 p.tb), .v (i64 p.ep), .v (i64 p.te), .v (.sl 2 p.hn (p.hs.map linkA)), .v (.sl 2 p.xn (p.xs.map linkA)), .v (.sl 3 p.ln (p.ls.map lsaA))]) := ⟨_, Prod.ext rfl o1⟩
      rw [o1] at f1
      obtain ⟨g5, o5⟩ : ∃ g, m.objs (.var 5) = (g, .arr false 1 (bsl (topB p ++ linksB (p.hs.take p.hs.length)))) := ⟨_, Prod.ext rfl o5⟩
      rw [o5] at f5
      refine AW.sr (cfg := cfg) ?_
      iterate 1 (apply aops_step (by decide) rfl; · (intro K hK; simp (disch := first | omega | decide) only [go_sem, f1, f5, f78, f79, f80, o1, o5, numS1, numS4, numS8, nm1, nm4, nm8, Bool.false_and, List.append_assoc, List.nil_append, cnt_is]; exact hK _))
      refine aops_nil ?_
      refine AW.seq ?_
      apply AW.cond
      ·(simp only [go_sem, f1, f5, f78, f79, f80, o1, o5, numS1, numS4, numS8, nm1, nm4, nm8, Bool.false_and, List.append_assoc, List.nil_append, cnt_is]; rfl)
      case ht => intro hb; (simp at hb; done)
      case hf =>
      intro hb
      have hbt81 := hb
      refine AW.exit ?_
      refine AW.seq ?_
      refine AW.sr (cfg := cfg) ?_
      refine aops_fl (by decide) (by decide) fo28_8 ti25 (by simp (disch := first | omega | decide) only [go_sem, f1, f5, f78, f79, f80, o1, o5, numS1, numS4, numS8, nm1, nm4, nm8, Bool.false_and, List.append_assoc, List.nil_append, cnt_is]; rfl) (by simp (disch := first | omega | decide) only [go_sem, f1, f5, f78, f79, f80, o1, o5, numS1, numS4, numS8, nm1, nm4, nm8, Bool.false_and, List.append_assoc, List.nil_append, cnt_is]; rfl) (by rfl) ?_
      iterate 2 (apply aops_step (by decide) rfl; · (intro K hK; simp (disch := first | omega | decide) only [go_sem, f1, f5, f78, f79, f80, o1, o5, List.map, List.length_map, aops_len u25, numS1, numS4, numS8, nm1, nm4, nm8, Bool.false_and, List.append_assoc, List.nil_append, cnt_is]; exact hK _))
      refine aops_nil ?_
      refine AW.block ?_
      refine AW.forN (fun k σ => ∃ s m, σ = ⟨124, s, m⟩ ∧ s 1 = .lptr (.tmp 1 0) (m.objs (.tmp 1 0)).1 0 ∧ (m.objs (.tmp 1 0)).2 = .box [.v (i64 p.kind), .v (i64 p.fr), .v (i64 p.boot), .v (i64 p.to), .v (i64 p.tb), .v (i64 p.ep), .v (i64 p.te), .v (.sl 2 p.hn (p.hs.map linkA)), .v (.sl 2 p.xn (p.xs.map linkA)), .v (.sl 3 p.ln (p.ls.map lsaA))] ∧ s 5 = .own (.var 5) (m.objs (.var 5)).1 0 ((topB p).length + 5 * p.hs.length + 9 * k) ∧ (m.objs (.var 5)).2 = .arr false 1 (bsl (topB p ++ (linksB p.hs ++ itemsB (p.xs.take k)))) ∧ s 95 = .v (.sl 2 p.xn (p.xs.map linkA)) ∧ s 96 = .v (i64 (p.xs.length : Int)) ∧ s 97 = .v (i64 (k : Int)) ∧ (∀ i, (m.objs (.res i)).2 = .dead) ∧ m.G = []) (p.xs.length) ?_ ?_ ?_
      ·refine ⟨_, _, rfl, ?_, ?_, ?_, ?_, ?_, ?_, ?_, (by intro i; simp [Mem.set, hr]), (by exact hG)⟩ <;> try simp (disch := first | omega | decide) only [go_sem, f1, f5, f78, f79, f80, o1, o5, numS1, numS4, numS8, nm1, nm4, nm8, Bool.false_and, List.append_assoc, List.nil_append, cnt_is]
       all_goals first | rfl | (simp [itemsB]; done)
      ·clear f1 f5 f78 f79 f80 o1 o5 hr hG
       rintro k σ hk ⟨s, m, rfl, f1, o1, f5, o5, f95, f96, f97, hr, hG⟩
       obtain ⟨g1, o1⟩ : ∃ g, m.objs (.tmp 1 0) = (g, .box [.v (i64 p.kind), .v (i64 p.fr), .v (i64 p.boot), .v (i64 p.to), .v (i64 p.tb), .v (i64 p.ep), .v (i64 p.te), .v (.sl 2 p.hn (p.hs.map linkA)), .v (.sl 2 p.xn (p.xs.map linkA)), .v (.sl 3 p.ln (p.ls.map lsaA))]) := ⟨_, Prod.ext rfl o1⟩
       rw [o1] at f1
       obtain ⟨g5, o5⟩ : ∃ g, m.objs (.var 5) = (g, .arr false 1 (bsl (topB p ++ (linksB p.hs ++ itemsB (p.xs.take k))))) := ⟨_, Prod.ext rfl o5⟩
       rw [o5] at f5
       refine AW.sr (cfg := cfg) ?_
       iterate 1 (apply aops_step (by decide) rfl; · (intro K hK; simp (disch := first | omega | decide) only [go_sem, f1, f5, f95, f96, f97, o1, o5, numS1, numS4, numS8, nm1, nm4, nm8, Bool.false_and, List.append_assoc, List.nil_append, cnt_is]; exact hK _))
       refine aops_nil ?_
       refine AW.seq ?_
       apply AW.cond
       ·(simp only [go_sem, f1, f5, f95, f96, f97, o1, o5, numS1, numS4, numS8, nm1, nm4, nm8, Bool.false_and, List.append_assoc, List.nil_append, cnt_is]; rfl)
       case hf => intro hb; (simp at hb; omega)
       case ht =>
       intro hb
       have hbt98 := hb
       refine AW.skip ?_
       refine AW.seq ?_
       refine AW.block ?_
       refine AW.seq ?_
       have hb1 := d7 _ (List.getElem_mem hk)
       refine AW.region (cfg := cfg) ?_
       apply aops_step (by decide) rfl
       ·intro K hK
        simp (disch := first | omega | decide) only [go_sem, f1, f5, f95, f96, f97, o1, o5, act_indexAddr_s u25 ti76, List.map, numS1, numS4, numS8, nm1, nm4, nm8, Bool.false_and, List.append_assoc, List.nil_append, cnt_is]
        skip
        exact hK _
       apply aops_step (by decide) rfl
       ·intro K hK
        simp (disch := first | omega | decide) only [go_sem, f1, f5, f95, f96, f97, o1, o5, act_load_t ti76, List.map, numS1, numS4, numS8, nm1, nm4, nm8, Bool.false_and, List.append_assoc, List.nil_append, cnt_is]
        rw [mwp_load_is (by simp)]
        exact hK _
       apply aops_step (by decide) rfl
       ·intro K hK
        simp (disch := first | omega | decide) only [go_sem, f1, f5, f95, f96, f97, o1, o5, act_alloc_t ti76, List.map, numS1, numS4, numS8, nm1, nm4, nm8, Bool.false_and, List.append_assoc, List.nil_append, cnt_is]
        exact hK _
       apply aops_step0 rfl
       ·intro K hK
        simp (disch := first | omega | decide) only [go_sem, f1, f5, f95, f96, f97, o1, o5, act_store_t ti76, List.map, numS1, numS4, numS8, nm1, nm4, nm8, Bool.false_and, List.append_assoc, List.nil_append, cnt_is]
        rw [mwp_store_c (by simp (disch := first | omega | decide) only [go_sem, f1, f5, f95, f96, f97, o1, o5, numS1, numS4, numS8, nm1, nm4, nm8, Bool.false_and, List.append_assoc, List.nil_append, cnt_is]; rfl) (by rfl) (by rfl) (by rfl) (by simp)]
        try simp only [setAt, cellsL, cellsOf_agg, cellsOf_base, List.map_cons, List.map_nil, List.set_cons_zero, List.set_cons_succ, Nat.reduceAdd, Nat.zero_add, hG]
        exact hK _
       refine aops_nil ?_
       refine AW.draw (cfg := cfg) (by kernel_rfl) (by kernel_rfl) (by kernel_rfl) ?_
       iterate 1 (apply adraw_step rfl; · (intro K hK; simp (disch := first | omega | decide) only [go_sem, f1, f5, f95, f96, f97, o1, o5, numS1, numS4, numS8, nm1, nm4, nm8, Bool.false_and, List.append_assoc, List.nil_append, cnt_is]; exact hK))
       apply adraw_step rfl
       ·intro K hK
        simp (disch := first | omega | decide) only [go_sem, f1, f5, f95, f96, f97, o1, o5, act_fieldAddr_t fo76_0, List.map, numS1, numS4, numS8, nm1, nm4, nm8, Bool.false_and, List.append_assoc, List.nil_append, cnt_is]
        rw [mwp_fieldAddr_b (by simp only [go_sem, f1, f5, f95, f96, f97, o1, o5, numS1, numS4, numS8, nm1, nm4, nm8, Bool.false_and, List.append_assoc, List.nil_append, cnt_is]; rfl)]
        exact hK
       apply adraw_step rfl
       ·intro K hK
        simp (disch := first | omega | decide) only [go_sem, f1, f5, f95, f96, f97, o1, o5, act_load_t ti3, List.map, numS1, numS4, numS8, nm1, nm4, nm8, Bool.false_and, List.append_assoc, List.nil_append, cnt_is]
        rw [mwp_load_b1 (by simp only [go_sem, f1, f5, f95, f96, f97, o1, o5, numS1, numS4, numS8, nm1, nm4, nm8, Bool.false_and, List.append_assoc, List.nil_append, cnt_is]; rfl) (by rfl)]
        exact hK
       iterate 1 (apply adraw_step rfl; · (intro K hK; simp (disch := first | omega | decide) only [go_sem, f1, f5, f95, f96, f97, o1, o5, act_convI u3 u71, numS1, numS4, numS8, nm1, nm4, nm8, Bool.false_and, List.append_assoc, List.nil_append, cnt_is]; exact hK))
       apply adraw_step rfl
       ·intro K hK
        simp (disch := first | omega | decide) only [go_sem, f1, f5, f95, f96, f97, o1, o5, act_call, List.map, numS1, numS4, numS8, nm1, nm4, nm8, Bool.false_and, List.append_assoc, List.nil_append, cnt_is]
        apply mwp_call_r rfl rfl rfl
        ·intro Q hQ
         (simp (disch := first | omega | decide) only [go_sem, f1, f5, f95, f96, f97, o1, o5, peekL, reifyL_nil, reifyL_cons, reify_v, numS1, numS4, numS8, nm1, nm4, nm8, Bool.false_and, List.append_assoc, List.nil_append, cnt_is]; ((((rw [mwp_reify_own (by simp (disch := first | omega | decide) only [go_sem, f1, f5, f95, f96, f97, o1, o5, peekL, reifyL_nil, reifyL_cons, reify_v, numS1, numS4, numS8, nm1, nm4, nm8, Bool.false_and, List.append_assoc, List.nil_append, cnt_is]; rfl)]); (try rw [sub_full (by (simp [headB_len, linksB_len, itemsB_len, numR_length, List.length_append]; omega))])); exact hQ)))
        ·exact O.good_Num false ((topB p ++ (linksB p.hs ++ itemsB (p.xs.take k)))) (by (simp [headB_len, linksB_len, itemsB_len, numR_length, List.length_append]; omega)) (by simp) 1 (p.xs[k]).to (by omega)
        ·simp [-List.map_take, -List.map_drop, -List.map_append, -List.map_replicate, -List.reduceReplicate, noPtrL, noPtr, noPtrL_bsl, noPtrL_map, sub]
        ·rw [resOf_own1 (by (simp (disch := decide) only [mset_ne, hr]; done))]
         exact hK
       apply adraw_step rfl
       ·intro K hK
        simp (disch := first | omega | decide) only [go_sem, f1, f5, f95, f96, f97, o1, o5, act_fieldAddr_t fo76_1, List.map, numS1, numS4, numS8, nm1, nm4, nm8, Bool.false_and, List.append_assoc, List.nil_append, cnt_is]
        rw [mwp_fieldAddr_b (by simp (disch := first | omega | decide) only [go_sem, f1, f5, f95, f96, f97, o1, o5, numS1, numS4, numS8, nm1, nm4, nm8, Bool.false_and, List.append_assoc, List.nil_append, cnt_is]; rfl)]
        exact hK
       apply adraw_step rfl
       ·intro K hK
        simp (disch := first | omega | decide) only [go_sem, f1, f5, f95, f96, f97, o1, o5, act_load_t ti3, List.map, numS1, numS4, numS8, nm1, nm4, nm8, Bool.false_and, List.append_assoc, List.nil_append, cnt_is]
        rw [mwp_load_b1 (by simp (disch := first | omega | decide) only [go_sem, f1, f5, f95, f96, f97, o1, o5, numS1, numS4, numS8, nm1, nm4, nm8, Bool.false_and, List.append_assoc, List.nil_append, cnt_is]; rfl) (by rfl)]
        exact hK
       iterate 1 (apply adraw_step rfl; · (intro K hK; simp (disch := first | omega | decide) only [go_sem, f1, f5, f95, f96, f97, o1, o5, act_convI u3 u71, numS1, numS4, numS8, nm1, nm4, nm8, Bool.false_and, List.append_assoc, List.nil_append, cnt_is]; exact hK))
       apply adraw_step rfl
       ·intro K hK
        simp (disch := first | omega | decide) only [go_sem, f1, f5, f95, f96, f97, o1, o5, act_call, List.map, numS1, numS4, numS8, nm1, nm4, nm8, Bool.false_and, List.append_assoc, List.nil_append, cnt_is]
        apply mwp_call_r rfl rfl rfl
        ·intro Q hQ
         (simp (disch := first | omega | decide) only [go_sem, f1, f5, f95, f96, f97, o1, o5, peekL, reifyL_nil, reifyL_cons, reify_v, numS1, numS4, numS8, nm1, nm4, nm8, Bool.false_and, List.append_assoc, List.nil_append, cnt_is]; ((((rw [mwp_reify_own (by simp only [go_sem, f1, f5, f95, f96, f97, o1, o5, peekL, reifyL_nil, reifyL_cons, reify_v, numS1, numS4, numS8, nm1, nm4, nm8, Bool.false_and, List.append_assoc, List.nil_append, cnt_is]; rfl)]); (try rw [sub_full (by rfl)])); exact hQ)))
        ·exact O.good_Num false (topB p ++ (linksB p.hs ++ (itemsB (p.xs.take k) ++ numR (p.xs[k]).to 1))) (by (simp [headB_len, linksB_len, itemsB_len, numR_length, List.length_append]; omega)) (by simp) 8 (p.xs[k]).co (by omega)
        ·simp [-List.map_take, -List.map_drop, -List.map_append, -List.map_replicate, -List.reduceReplicate, noPtrL, noPtr, noPtrL_bsl, noPtrL_map, sub]
        ·rw [resOf_own1 (by (simp (disch := decide) only [mset_ne, hr]; done))]
         exact hK
       apply adraw_step rfl
       ·intro K hK
        simp (disch := first | omega | decide) only [go_sem, f1, f5, f95, f96, f97, o1, o5, numS1, numS4, numS8, nm1, nm4, nm8, Bool.false_and, List.append_assoc, List.nil_append, cnt_is]
        rw [asg_tmp (by simp (disch := first | omega | decide) only [go_sem, f1, f5, f95, f96, f97, o1, o5, numS1, numS4, numS8, nm1, nm4, nm8, Bool.false_and, List.append_assoc, List.nil_append, cnt_is]; rfl)]
        exact hK
       refine adraw_nil (by kernel_rfl) ?_
       refine AW.region (cfg := cfg) ?_
       iterate 2 (apply aops_step (by decide) rfl; · (intro K hK; simp (disch := first | omega | decide) only [go_sem, f1, f5, f95, f96, f97, o1, o5, numS1, numS4, numS8, nm1, nm4, nm8, Bool.false_and, List.append_assoc, List.nil_append, cnt_is]; exact hK _))
       refine aops_nil ?_
       refine ⟨_, _, rfl, ?_, ?_, ?_, ?_, ?_, ?_, ?_, (by intro i; simp [Mem.set, hr]), (by exact hG)⟩ <;> try simp (disch := first | omega | decide) only [go_sem, f1, f5, f95, f96, f97, o1, o5, numS1, numS4, numS8, nm1, nm4, nm8, Bool.false_and, List.append_assoc, List.nil_append, cnt_is]
       all_goals first | rfl | (rw [itemsB_take hk]; simp [itemB]; done) | (simp [linksB_len, itemsB_len, numR_length]; omega)
      ·clear f1 f5 f78 f79 f80 o1 o5 hr hG
       rintro σ ⟨s, m, rfl, f1, o1, f5, o5, f95, f96, f97, hr, hG⟩
       obtain ⟨g1, o1⟩ : ∃ g, m.objs (.tmp 1 0) = (g, .box [.v (i64 p.kind), .v (i64 p.fr), .v (i64 p.boot), .v (i64 p.to), .v (i64 p.tb), .v (i64 p.ep), .v (i64 p.te), .v (.sl 2 p.hn (p.hs.map linkA)), .v (.sl 2 p.xn (p.xs.map linkA)), .v (.sl 3 p.ln (p.ls.map lsaA))]) := ⟨_, Prod.ext rfl o1⟩
       rw [o1] at f1
       obtain ⟨g5, o5⟩ : ∃ g, m.objs (.var 5) = (g, .arr false 1 (bsl (topB p ++ (linksB p.hs ++ itemsB (p.xs.take p.xs.length))))) := ⟨_, Prod.ext rfl o5⟩
       rw [o5] at f5
       refine AW.sr (cfg := cfg) ?_
       iterate 1 (apply aops_step (by decide) rfl; · (intro K hK; simp (disch := first | omega | decide) only [go_sem, f1, f5, f95, f96, f97, o1, o5, numS1, numS4, numS8, nm1, nm4, nm8, Bool.false_and, List.append_assoc, List.nil_append, cnt_is]; exact hK _))
       refine aops_nil ?_
       refine AW.seq ?_
       apply AW.cond
       ·(simp only [go_sem, f1, f5, f95, f96, f97, o1, o5, numS1, numS4, numS8, nm1, nm4, nm8, Bool.false_and, List.append_assoc, List.nil_append, cnt_is]; rfl)
       case ht => intro hb; (simp at hb; done)
       case hf =>
       intro hb
       have hbt98 := hb
       refine AW.exit ?_
       refine AW.seq ?_
       refine AW.sr (cfg := cfg) ?_
       refine aops_fl (by decide) (by decide) fo28_9 ti26 (by simp (disch := first | omega | decide) only [go_sem, f1, f5, f95, f96, f97, o1, o5, numS1, numS4, numS8, nm1, nm4, nm8, Bool.false_and, List.append_assoc, List.nil_append, cnt_is]; rfl) (by simp (disch := first | omega | decide) only [go_sem, f1, f5, f95, f96, f97, o1, o5, numS1, numS4, numS8, nm1, nm4, nm8, Bool.false_and, List.append_assoc, List.nil_append, cnt_is]; rfl) (by rfl) ?_
       iterate 2 (apply aops_step (by decide) rfl; · (intro K hK; simp (disch := first | omega | decide) only [go_sem, f1, f5, f95, f96, f97, o1, o5, List.map, List.length_map, aops_len u26, numS1, numS4, numS8, nm1, nm4, nm8, Bool.false_and, List.append_assoc, List.nil_append, cnt_is]; exact hK _))
       refine aops_nil ?_
       refine AW.block ?_
       refine AW.forN (fun k σ => ∃ s m, σ = ⟨124, s, m⟩ ∧ s 1 = .lptr (.tmp 1 0) (m.objs (.tmp 1 0)).1 0 ∧ (m.objs (.tmp 1 0)).2 = .box [.v (i64 p.kind), .v (i64 p.fr), .v (i64 p.boot), .v (i64 p.to), .v (i64 p.tb), .v (i64 p.ep), .v (i64 p.te), .v (.sl 2 p.hn (p.hs.map linkA)), .v (.sl 2 p.xn (p.xs.map linkA)), .v (.sl 3 p.ln (p.ls.map lsaA))] ∧ s 5 = .own (.var 5) (m.objs (.var 5)).1 0 ((topB p).length + 5 * p.hs.length + 9 * p.xs.length + (lsasB (p.ls.take k)).length) ∧ (m.objs (.var 5)).2 = .arr false 1 (bsl (topB p ++ (linksB p.hs ++ (itemsB p.xs ++ lsasB (p.ls.take k))))) ∧ s 112 = .v (.sl 3 p.ln (p.ls.map lsaA)) ∧ s 113 = .v (i64 (p.ls.length : Int)) ∧ s 114 = .v (i64 (k : Int)) ∧ (∀ i, (m.objs (.res i)).2 = .dead) ∧ m.G = []) (p.ls.length) ?_ ?_ ?_
       ·refine ⟨_, _, rfl, ?_, ?_, ?_, ?_, ?_, ?_, ?_, (by intro i; simp [Mem.set, hr]), (by exact hG)⟩ <;> try simp (disch := first | omega | decide) only [go_sem, f1, f5, f95, f96, f97, o1, o5, numS1, numS4, numS8, nm1, nm4, nm8, Bool.false_and, List.append_assoc, List.nil_append, cnt_is]
        all_goals first | rfl | (simp [lsasB]; done)
       ·clear f1 f5 f95 f96 f97 o1 o5 hr hG
        rintro k σ hk ⟨s, m, rfl, f1, o1, f5, o5, f112, f113, f114, hr, hG⟩
        obtain ⟨g1, o1⟩ : ∃ g, m.objs (.tmp 1 0) = (g, .box [.v (i64 p.kind), .v (i64 p.fr), .v (i64 p.boot), .v (i64 p.to), .v (i64 p.tb), .v (i64 p.ep), .v (i64 p.te), .v (.sl 2 p.hn (p.hs.map linkA)), .v (.sl 2 p.xn (p.xs.map linkA)), .v (.sl 3 p.ln (p.ls.map lsaA))]) := ⟨_, Prod.ext rfl o1⟩
        rw [o1] at f1
        obtain ⟨g5, o5⟩ : ∃ g, m.objs (.var 5) = (g, .arr false 1 (bsl (topB p ++ (linksB p.hs ++ (itemsB p.xs ++ lsasB (p.ls.take k)))))) := ⟨_, Prod.ext rfl o5⟩
        rw [o5] at f5
        refine AW.sr (cfg := cfg) ?_
        iterate 1 (apply aops_step (by decide) rfl; · (intro K hK; simp (disch := first | omega | decide) only [go_sem, f1, f5, f112, f113, f114, o1, o5, numS1, numS4, numS8, nm1, nm4, nm8, Bool.false_and, List.append_assoc, List.nil_append, cnt_is]; exact hK _))
        refine aops_nil ?_
        refine AW.seq ?_
        apply AW.cond
        ·(simp only [go_sem, f1, f5, f112, f113, f114, o1, o5, numS1, numS4, numS8, nm1, nm4, nm8, Bool.false_and, List.append_assoc, List.nil_append, cnt_is]; rfl)
        case hf => intro hb; (simp at hb; omega)
        case ht =>
        intro hb
        have hbt115 := hb
        refine AW.skip ?_
        refine AW.seq ?_
        refine AW.block ?_
        refine AW.seq ?_
        have hb1 := d5 _ (List.getElem_mem hk)
        have hb2 := eta_ok hb1
        have hb3 := eta_S hb1
        have hb4 := (lsa_bd hb1).2.2.1
        have hb5 := lsasB_len (ls := p.ls.take k) (fun x hx => d5 x (List.mem_of_mem_take hx))
        have hb6 : (p.ls.take k).length ≤ 8 := by (simp; omega)
        refine AW.region (cfg := cfg) ?_
        apply aops_step (by decide) rfl
        ·intro K hK
         simp (disch := first | omega | decide) only [go_sem, f1, f5, f112, f113, f114, o1, o5, hb2, hb3, act_indexAddr_s u26 ti79, List.map, numS1, numS4, numS8, nm1, nm4, nm8, Bool.false_and, List.append_assoc, List.nil_append, cnt_is]
         skip
         exact hK _
        apply aops_step (by decide) rfl
        ·intro K hK
         simp (disch := first | omega | decide) only [go_sem, f1, f5, f112, f113, f114, o1, o5, hb2, hb3, act_load_t ti79, List.map, numS1, numS4, numS8, nm1, nm4, nm8, Bool.false_and, List.append_assoc, List.nil_append, cnt_is]
         rw [mwp_load_is (by simp)]
         exact hK _
        apply aops_step (by decide) rfl
        ·intro K hK
         simp (disch := first | omega | decide) only [go_sem, f1, f5, f112, f113, f114, o1, o5, hb2, hb3, act_alloc_t ti79, List.map, numS1, numS4, numS8, nm1, nm4, nm8, Bool.false_and, List.append_assoc, List.nil_append, cnt_is]
         exact hK _
        apply aops_step0 rfl
        ·intro K hK
         simp (disch := first | omega | decide) only [go_sem, f1, f5, f112, f113, f114, o1, o5, hb2, hb3, act_store_t ti79, List.map, numS1, numS4, numS8, nm1, nm4, nm8, Bool.false_and, List.append_assoc, List.nil_append, cnt_is]
         rw [mwp_store_c (by simp (disch := first | omega | decide) only [go_sem, f1, f5, f112, f113, f114, o1, o5, hb2, hb3, numS1, numS4, numS8, nm1, nm4, nm8, Bool.false_and, List.append_assoc, List.nil_append, cnt_is]; rfl) (by rfl) (by rfl) (by rfl) (by simp)]
         try simp only [setAt, cellsL, cellsOf_agg, cellsOf_base, List.map_cons, List.map_nil, List.set_cons_zero, List.set_cons_succ, Nat.reduceAdd, Nat.zero_add, hG]
         exact hK _
        refine aops_nil ?_
        refine AW.region (cfg := cfg) ?_
        iterate 1 (apply aops_step (by decide) rfl; · (intro K hK; simp (disch := first | omega | decide) only [go_sem, f1, f5, f112, f113, f114, o1, o5, hb2, hb3, numS1, numS4, numS8, nm1, nm4, nm8, Bool.false_and, List.append_assoc, List.nil_append, cnt_is]; exact hK _))
        apply aops_step (by decide) rfl
        ·intro K hK
         simp (disch := first | omega | decide) only [go_sem, f1, f5, f112, f113, f114, o1, o5, hb2, hb3, act_load_t ti79, List.map, numS1, numS4, numS8, nm1, nm4, nm8, Bool.false_and, List.append_assoc, List.nil_append, cnt_is]
         rw [mwp_load_bs (by simp (disch := first | omega | decide) only [go_sem, f1, f5, f112, f113, f114, o1, o5, hb2, hb3, numS1, numS4, numS8, nm1, nm4, nm8, Bool.false_and, List.append_assoc, List.nil_append, cnt_is]; rfl) (by simp [setAt])]
         exact hK _
        apply aops_step (by decide) rfl
        ·intro K hK
         simp (disch := first | omega | decide) only [go_sem, f1, f5, f112, f113, f114, o1, o5, hb2, hb3, act_call, List.map, numS1, numS4, numS8, nm1, nm4, nm8, Bool.false_and, List.append_assoc, List.nil_append, cnt_is]
         apply mwp_call_r rfl rfl rfl
         ·intro Q hQ
          (simp (disch := first | omega | decide) only [go_sem, f1, f5, f112, f113, f114, o1, o5, hb2, hb3, peekL, reifyL_nil, reifyL_cons, reify_v, numS1, numS4, numS8, nm1, nm4, nm8, Bool.false_and, List.append_assoc, List.nil_append, cnt_is]; ((((rw [mwp_reify_own (by simp (disch := first | omega | decide) only [go_sem, f1, f5, f112, f113, f114, o1, o5, hb2, hb3, peekL, reifyL_nil, reifyL_cons, reify_v, numS1, numS4, numS8, nm1, nm4, nm8, Bool.false_and, List.append_assoc, List.nil_append, cnt_is]; rfl)]); (try rw [sub_full (by (simp [headB_len, linksB_len, itemsB_len, numR_length, List.length_append]; omega))])); exact hQ)))
         ·exact L.good_Put false (topB p ++ (linksB p.hs ++ (itemsB p.xs ++ lsasB (p.ls.take k)))) _ _ _ _ (by (simp [headB_len, linksB_len, itemsB_len, numR_length, List.length_append]; omega)) (by simp) (by omega)
         ·simp [-List.map_take, -List.map_drop, -List.map_append, -List.map_replicate, -List.reduceReplicate, noPtrL, noPtr, noPtrL_bsl, noPtrL_map, sub]
         ·rw [resOf_own1 (by (simp (disch := decide) only [mset_ne, hr]; done))]
          exact hK _
        apply aops_step (by decide) rfl
        ·intro K hK
         simp (disch := first | omega | decide) only [go_sem, f1, f5, f112, f113, f114, o1, o5, hb2, hb3, numS1, numS4, numS8, nm1, nm4, nm8, Bool.false_and, List.append_assoc, List.nil_append, cnt_is]
         rw [asg_tmp (by simp (disch := first | omega | decide) only [go_sem, f1, f5, f112, f113, f114, o1, o5, hb2, hb3, numS1, numS4, numS8, nm1, nm4, nm8, Bool.false_and, List.append_assoc, List.nil_append, cnt_is]; rfl)]
         exact hK _
        refine aops_nil ?_
        refine AW.region (cfg := cfg) ?_
        iterate 2 (apply aops_step (by decide) rfl; · (intro K hK; simp (disch := first | omega | decide) only [go_sem, f1, f5, f112, f113, f114, o1, o5, hb2, hb3, numS1, numS4, numS8, nm1, nm4, nm8, Bool.false_and, List.append_assoc, List.nil_append, cnt_is]; exact hK _))
        refine aops_nil ?_
        refine ⟨_, _, rfl, ?_, ?_, ?_, ?_, ?_, ?_, ?_, (by intro i; simp [Mem.set, hr]), (by exact hG)⟩ <;> try simp (disch := first | omega | decide) only [go_sem, f1, f5, f112, f113, f114, o1, o5, hb2, hb3, numS1, numS4, numS8, nm1, nm4, nm8, Bool.false_and, List.append_assoc, List.nil_append, cnt_is]
        all_goals first | rfl | (rw [lsasB_take hk]; done) | (rw [lsasB_take hk]; simp [linksB_len, itemsB_len]; omega)
       ·clear f1 f5 f95 f96 f97 o1 o5 hr hG
        rintro σ ⟨s, m, rfl, f1, o1, f5, o5, f112, f113, f114, hr, hG⟩
        obtain ⟨g1, o1⟩ : ∃ g, m.objs (.tmp 1 0) = (g, .box [.v (i64 p.kind), .v (i64 p.fr), .v (i64 p.boot), .v (i64 p.to), .v (i64 p.tb), .v (i64 p.ep), .v (i64 p.te), .v (.sl 2 p.hn (p.hs.map linkA)), .v (.sl 2 p.xn (p.xs.map linkA)), .v (.sl 3 p.ln (p.ls.map lsaA))]) := ⟨_, Prod.ext rfl o1⟩
        rw [o1] at f1
        obtain ⟨g5, o5⟩ : ∃ g, m.objs (.var 5) = (g, .arr false 1 (bsl (topB p ++ (linksB p.hs ++ (itemsB p.xs ++ lsasB (p.ls.take p.ls.length)))))) := ⟨_, Prod.ext rfl o5⟩
        rw [o5] at f5
        refine AW.sr (cfg := cfg) ?_
        iterate 1 (apply aops_step (by decide) rfl; · (intro K hK; simp (disch := first | omega | decide) only [go_sem, f1, f5, f112, f113, f114, o1, o5, numS1, numS4, numS8, nm1, nm4, nm8, Bool.false_and, List.append_assoc, List.nil_append, cnt_is]; exact hK _))
        refine aops_nil ?_
        refine AW.seq ?_
        apply AW.cond
        ·(simp only [go_sem, f1, f5, f112, f113, f114, o1, o5, numS1, numS4, numS8, nm1, nm4, nm8, Bool.false_and, List.append_assoc, List.nil_append, cnt_is]; rfl)
        case ht => intro hb; (simp at hb; done)
        case hf =>
        intro hb
        have hbt115 := hb
        refine AW.exit ?_
        refine AW.seq ?_
        have e7 : (topB p ++ (linksB p.hs ++ (itemsB p.xs ++ lsasB (p.ls.take p.ls.length)))) = pktB p := by rw [List.take_length]; rfl
        refine AW.region (cfg := cfg) ?_
        iterate 1 (apply aops_step (by decide) rfl; · (intro K hK; simp (disch := first | omega | decide) only [go_sem, f1, f5, f112, f113, f114, o1, o5, numS1, numS4, numS8, nm1, nm4, nm8, Bool.false_and, List.append_assoc, List.nil_append, cnt_is]; exact hK _))
        apply aops_step (by decide) rfl
        ·intro K hK
         simp (disch := first | omega | decide) only [go_sem, f1, f5, f112, f113, f114, o1, o5, act_call, List.map, numS1, numS4, numS8, nm1, nm4, nm8, Bool.false_and, List.append_assoc, List.nil_append, cnt_is]
         apply mwp_call_r rfl rfl rfl
         ·intro Q hQ
          (simp (disch := first | omega | decide) only [go_sem, f1, f5, f112, f113, f114, o1, o5, peekL, reifyL_nil, reifyL_cons, reify_v, numS1, numS4, numS8, nm1, nm4, nm8, Bool.false_and, List.append_assoc, List.nil_append, cnt_is]; ((((rw [mwp_reify_own (by simp only [go_sem, f1, f5, f112, f113, f114, o1, o5, peekL, reifyL_nil, reifyL_cons, reify_v, numS1, numS4, numS8, nm1, nm4, nm8, Bool.false_and, List.append_assoc, List.nil_append, cnt_is]; rfl)]); (try rw [sub_full (by (simp [headB_len, linksB_len, itemsB_len, numR_length, List.length_append]; omega))])); exact hQ)))
         ·exact Z.good_Seal false (topB p ++ (linksB p.hs ++ (itemsB p.xs ++ lsasB (p.ls.take p.ls.length)))) (by rw [e7]; omega)
         ·simp [-List.map_take, -List.map_drop, -List.map_append, -List.map_replicate, -List.reduceReplicate, noPtrL, noPtr, noPtrL_bsl, noPtrL_map, sub]
         ·rw [resOf_own1 (by (simp (disch := decide) only [mset_ne, hr]; done))]
          exact hK _
        apply aops_step (by decide) rfl
        ·intro K hK
         simp (disch := first | omega | decide) only [go_sem, f1, f5, f112, f113, f114, o1, o5, numS1, numS4, numS8, nm1, nm4, nm8, Bool.false_and, List.append_assoc, List.nil_append, cnt_is]
         rw [asg_tmp (by simp (disch := first | omega | decide) only [go_sem, f1, f5, f112, f113, f114, o1, o5, numS1, numS4, numS8, nm1, nm4, nm8, Bool.false_and, List.append_assoc, List.nil_append, cnt_is]; rfl)]
         exact hK _
        iterate 1 (apply aops_step (by decide) rfl; · (intro K hK; simp (disch := first | omega | decide) only [go_sem, f1, f5, f112, f113, f114, o1, o5, numS1, numS4, numS8, nm1, nm4, nm8, Bool.false_and, List.append_assoc, List.nil_append, cnt_is]; exact hK _))
        refine aops_nil ?_
        refine AW.ret ?_
        refine ⟨.inr rfl, ?_⟩
        all_goals (obtain ⟨e8, e9⟩ := ps_ok hok; rw [hok, e8, e9, ← e7]; refine leavesN (leaves_own2 2 3 rfl (by simp (disch := first | omega | decide) only [go_sem, f1, f5, f112, f113, f114, o1, o5, numS1, numS4, numS8, nm1, nm4, nm8, Bool.false_and, List.append_assoc, List.nil_append, cnt_is] <;> rfl) (by simp (disch := first | omega | decide) only [go_sem, f1, f5, f112, f113, f114, o1, o5, numS1, numS4, numS8, nm1, nm4, nm8, Bool.false_and, List.append_assoc, List.nil_append, cnt_is] <;> rfl) (by simp (disch := first | omega | decide) only [go_sem, f1, f5, f112, f113, f114, o1, o5, numS1, numS4, numS8, nm1, nm4, nm8, Bool.false_and, List.append_assoc, List.nil_append, cnt_is] <;> rfl) (by decide) (by simp [sub, List.take_of_length_le]) (by exact hG)))
end Go.Vai.P
