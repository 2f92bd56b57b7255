import Derived.Test.YtblgcekomnnfmaagSeal
namespace Go.Vai.Z
open Go.Proofs Go.Vai Go.Vai.O Go.Vai.U
set_option linter.unusedSimpArgs false
set_option linter.unusedVariables false
set_option maxHeartbeats 4000000
set_option maxRecDepth 100000
open Go.Vai.U (ofS refS pslice ref_of)
theorem good_refSeal (nil : Bool) (l : List (BitVec 8)) (hl : l.length ≤ 140737488355000) : Good Try.prog 70 [(.sl 1 nil (bsl l), false)] [] [(.sl 1 false (bsl (sealS l)), false)] [] := by
 refine good_of_body2 25 Try.func70 rfl rfl rfl (by simp) ?_
 intro s m ha hr hv hG
 have f0 : s 0 = .v (.sl 1 nil (bsl l)) := ha 0 _ rfl
 clear ha
 refine AW.sr (cfg := cfg) ?_
 iterate 1 (apply aops_step (by decide) rfl; · (intro K hK; simp (disch := first | omega | decide) only [go_sem, f0, sz22, conv_32_8]; exact hK _))
 refine aops_nil ?_
 refine AW.sr (cfg := cfg) ?_
 iterate 1 (apply aops_step (by decide) rfl; · (intro K hK; simp (disch := first | omega | decide) only [go_sem, f0, conv_32_8]; exact hK _))
 apply aops_step (by decide) rfl
 ·intro K hK
  simp (disch := first | omega | decide) only [go_sem, f0, act_call, List.map, conv_32_8]
  apply mwp_call_s rfl rfl rfl
  ·intro Q hQ
   (simp (disch := first | omega | decide) only [go_sem, f0, peekL, reifyL_nil, reifyL_cons, reify_v, conv_32_8]; (exact hQ))
  ·exact U.good_refOf nil l (by omega)
  ·simp [-List.map_take, -List.map_drop, -List.map_append, -List.map_replicate, -List.reduceReplicate, noPtrL, noPtr, noPtrL_bsl, noPtrL_map, sub]
  ·rfl
  ·exact hK _
 iterate 1 (apply aops_step (by decide) rfl; · (intro K hK; simp (disch := first | omega | decide) only [go_sem, f0, conv_32_8]; exact hK _))
 refine aops_nil ?_
 refine AW.sr (cfg := cfg) ?_
 apply aops_step (by decide) rfl
 ·intro K hK
  rw [act_bs el22 ti5]
  (simp [-List.map_take, -List.map_drop, -BitVec.toNat_ofInt, -BitVec.ofInt_natCast, -BitVec.toNat_setWidth, -BitVec.toNat_ushiftRight, -BitVec.toNat_umod, -BitVec.toNat_udiv, go_sem, elems_v, cellishAV, Value.oneCell', isAggAV, partsOf, TI.z, TI.mk1, f0]; exact hK _)
 iterate 1 (apply aops_step (by decide) rfl; · (intro K hK; simp (disch := first | omega | decide) only [go_sem, f0, conv_32_8]; exact hK _))
 apply aops_step (by decide) rfl
 ·intro K hK
  simp (disch := first | omega | decide) only [go_sem, f0, List.map, conv_32_8]
  apply mwp_append2 el22 ti5 u22
  case hpk => intro Q hQ; exact hQ
  case hs' => rfl
  case ho => simp (disch := first | omega | decide) only [go_sem, f0, conv_32_8]; rfl
  case hsz => rfl
  case hhi => (simp; done)
  case hb => (simp only [List.length_cons, List.length_nil, List.length_map, Nat.zero_add, Nat.reduceAdd, roomB]; omega)
  case hy => (simp [sub, cellsOf]; done)
  case k => (try simp only [List.nil_append, ← List.map_append, Bool.false_and]); exact hK _
 iterate 14 (apply aops_step (by decide) rfl; · (intro K hK; simp (disch := first | omega | decide) only [go_sem, f0, act_convI u40 u5, conv_32_8]; exact hK _))
 apply aops_step (by decide) rfl
 ·intro K hK
  rw [act_bs el22 ti5]
  (simp [-List.map_take, -List.map_drop, -BitVec.toNat_ofInt, -BitVec.ofInt_natCast, -BitVec.toNat_setWidth, -BitVec.toNat_ushiftRight, -BitVec.toNat_umod, -BitVec.toNat_udiv, go_sem, elems_v, cellishAV, Value.oneCell', isAggAV, partsOf, TI.z, TI.mk1, f0]; exact hK _)
 apply aops_step (by decide) rfl
 ·intro K hK
  simp (disch := first | omega | decide) only [go_sem, f0, List.map, conv_32_8]
  apply mwp_append2 el22 ti5 u22
  case hpk => intro Q hQ; (rw [peek_own (by simp (disch := first | omega | decide) only [go_sem, f0, conv_32_8]; rfl)]; (try rw [sub_full (by rfl)]); exact hQ)
  case hs' => rfl
  case ho => simp (disch := first | omega | decide) only [go_sem, f0, conv_32_8]; rfl
  case hsz => rfl
  case hhi => (simp; done)
  case hb => (simp only [List.length_cons, List.length_nil, List.length_map, Nat.zero_add, Nat.reduceAdd, roomB]; omega)
  case hy => exact all_cells rfl
  case k => (try simp only [List.nil_append, ← List.map_append, Bool.false_and]); exact hK _
 apply aops_step (by decide) rfl
 ·intro K hK
  simp (disch := first | omega | decide) only [go_sem, f0, conv_32_8]
  rw [asg_tmp (by simp (disch := first | omega | decide) only [go_sem, f0, conv_32_8]; rfl)]
  exact hK _
 refine aops_nil ?_
 refine AW.ret ?_
 refine ⟨.inr rfl, ?_⟩
 refine leaves_frz1 2 rfl (by simp (disch := first | omega | decide) only [go_sem, f0, conv_32_8] <;> rfl) (by simp (disch := first | omega | decide) only [go_sem, f0, conv_32_8] <;> rfl) (by rw [sealS, ← ckR_ckB]; exact (sub_full (by simp only [List.length_append, List.length_map, List.length_cons, List.length_nil]; omega)).trans (by simp only [ckR, List.map_append, List.map_cons, List.map_nil])) (by exact hG)
theorem good_Seal (nil : Bool) (l : List (BitVec 8)) (hl : l.length ≤ 140737488355000) : Good Try.prog 42 [(.sl 1 nil (bsl l), false)] [] [(.sl 1 false (bsl (sealS l)), true)] [] := by
 refine good_of_body2 10 Try.func42 rfl rfl rfl (by simp) ?_
 intro s m ha hr hv hG
 have f0 : s 0 = .v (.sl 1 nil (bsl l)) := ha 0 _ rfl
 clear ha
 refine AW.sr (cfg := cfg) ?_
 iterate 1 (apply aops_step (by decide) rfl; · (intro K hK; simp (disch := first | omega | decide) only [go_sem, f0, sz22]; exact hK _))
 refine aops_nil ?_
 refine AW.seq ?_
 have e1 : ofS [(nil, l)] = refS l := (ref_of nil l).symm
 have e2 : cat [(nil, l), (false, ckB (refS l))] = sealS l := by simp [cat, sealS]
 have e3 : (!decide (((sealS l).length : Int) > 0)) = false := by simp [sealS_len]; omega
 refine AW.region (cfg := cfg) ?_
 iterate 2 (apply aops_step (by decide) rfl; · (intro K hK; simp (disch := first | omega | decide) only [go_sem, f0, e1, e2, e3]; exact hK _))
 apply aops_step (by decide) rfl
 ·intro K hK
  rw [act_bs el47 ti22]
  (simp [-List.map_take, -List.map_drop, -BitVec.toNat_ofInt, -BitVec.ofInt_natCast, -BitVec.toNat_setWidth, -BitVec.toNat_ushiftRight, -BitVec.toNat_umod, -BitVec.toNat_udiv, go_sem, elems_v, cellishAV, Value.oneCell', isAggAV, partsOf, TI.z, TI.mk1, f0, e1, e2, e3]; exact hK _)
 apply aops_step (by decide) rfl
 ·intro K hK
  simp (disch := first | omega | decide) only [go_sem, f0, e1, e2, e3, act_call, List.map]
  apply mwp_call_s rfl rfl rfl
  ·intro Q hQ
   (simp (disch := first | omega | decide) only [go_sem, f0, e1, e2, e3, peekL, reifyL_nil, reifyL_cons, reify_v]; ((((rw [peek_own (by simp (disch := first | omega | decide) only [go_sem, f0, e1, e2, e3, peekL, reifyL_nil, reifyL_cons, reify_v]; rfl)]); (try rw [sub_full (by rfl)])); exact hQ)))
  ·exact U.good_Of false [(nil, l)] (by simp) (by simp; omega)
  ·simp [-List.map_take, -List.map_drop, -List.map_append, -List.map_replicate, -List.reduceReplicate, noPtrL, noPtr, noPtrL_bsl, noPtrL_map, sub]
  ·rfl
  ·exact hK _
 apply aops_step (by decide) rfl
 ·intro K hK
  simp (disch := first | omega | decide) only [go_sem, f0, e1, e2, e3, act_call, List.map]
  apply mwp_call_r rfl rfl rfl
  ·intro Q hQ
   (simp (disch := first | omega | decide) only [go_sem, f0, e1, e2, e3, peekL, reifyL_nil, reifyL_cons, reify_v]; (exact hQ))
  ·exact good_bytes (refS l)
  ·simp [-List.map_take, -List.map_drop, -List.map_append, -List.map_replicate, -List.reduceReplicate, noPtrL, noPtr, noPtrL_bsl, noPtrL_map, sub]
  ·simp (disch := first | omega | decide) only [go_sem, f0, e1, e2, e3]
   exact hK _
 apply aops_step (by decide) rfl
 ·intro K hK
  rw [act_bs el47 ti22]
  (simp [-List.map_take, -List.map_drop, -BitVec.toNat_ofInt, -BitVec.ofInt_natCast, -BitVec.toNat_setWidth, -BitVec.toNat_ushiftRight, -BitVec.toNat_umod, -BitVec.toNat_udiv, go_sem, elems_v, cellishAV, Value.oneCell', isAggAV, partsOf, TI.z, TI.mk1, f0, e1, e2, e3]; exact hK _)
 apply aops_step (by decide) rfl
 ·intro K hK
  simp (disch := first | omega | decide) only [go_sem, f0, e1, e2, e3, act_call, List.map]
  apply mwp_call_r rfl rfl rfl
  ·intro Q hQ
   (simp (disch := first | omega | decide) only [go_sem, f0, e1, e2, e3, peekL, reifyL_nil, reifyL_cons, reify_v]; ((((rw [mwp_reify_own (by simp only [go_sem, f0, e1, e2, e3, peekL, reifyL_nil, reifyL_cons, reify_v]; rfl)]); (try rw [sub_full (by rfl)])); exact hQ)))
  ·exact good_Concat false [(nil, l), (false, ckB (refS l))] (by simp) (by rw [e2, sealS_len]; omega)
  ·simp [-List.map_take, -List.map_drop, -List.map_append, -List.map_replicate, -List.reduceReplicate, noPtrL, noPtr, noPtrL_bsl, noPtrL_map, sub]
  ·rw [resOf_own1 (by (simp (disch := decide) only [mset_ne, hr]; done))]
   exact hK _
 apply aops_step (by decide) rfl
 ·intro K hK
  simp (disch := first | omega | decide) only [go_sem, f0, e1, e2, e3]
  rw [asg_tmp (by simp (disch := first | omega | decide) only [go_sem, f0, e1, e2, e3]; rfl)]
  exact hK _
 refine aops_nil ?_
 refine AW.ret ?_
 refine ⟨.inr rfl, ?_⟩
 refine leaves_own1 2 rfl (by simp (disch := first | omega | decide) only [go_sem, f0, e1, e2, e3] <;> rfl) (by simp (disch := first | omega | decide) only [go_sem, f0, e1, e2, e3] <;> rfl) (by decide) (by rw [sub_full (by simp)]) (by exact hG)
def body (l : List (BitVec 8)) : List (BitVec 8) := l.take (l.length - 4)
def okO (l : List (BitVec 8)) : Bool := decide (4 ≤ l.length) && decide (ckB (refS (body l)) = l.drop (l.length - 4))
def okV (l : List (BitVec 8)) : List (BitVec 8) := if okO l then body l else []
theorem body_int {l : List (BitVec 8)} (h : ¬ (l.length : Int) - 4 < 0) : l.take ((l.length : Int) - 4).toNat = body l := by
  rw [body, show ((l.length : Int) - 4).toNat = l.length - 4 by omega]
theorem tail_int {l : List (BitVec 8)} (h : ¬ (l.length : Int) - 4 < 0) : l.drop ((l.length : Int) - 4).toNat = l.drop (l.length - 4) := by
  rw [show ((l.length : Int) - 4).toNat = l.length - 4 by omega]
theorem ok_no {l : List (BitVec 8)} (h : (l.length : Int) - 4 < 0) : okO l = false ∧ okV l = [] := by
  have : okO l = false := by simp [okO]; omega
  exact ⟨this, by simp [okV, this]⟩
theorem ok_is {l : List (BitVec 8)} (h : ¬ (l.length : Int) - 4 < 0) : okO l = decide (ckB (refS (body l)) = l.drop (l.length - 4)) := by
  simp only [okO]; rw [decide_eq_true (by omega)]; rfl
theorem ok_ref {l : List (BitVec 8)} (h : ¬ (l.length : Int) - 4 < 0) : decide (sealS (body l) = l) = okO l := by
  rw [ok_is h]
  apply decide_eq_decide.2
  have e : l = body l ++ l.drop (l.length - 4) := by simp [body]
  constructor
  · intro h1
    have h2 : body l ++ ckB (refS (body l)) = body l ++ l.drop (l.length - 4) := by rw [← e]; exact h1
    exact List.append_cancel_left h2
  · intro h1
    rw [sealS, h1]; exact e.symm
theorem seal_open (l : List (BitVec 8)) : okO (sealS l) = true ∧ okV (sealS l) = l := by
  have hb : body (sealS l) = l := by simp [body, sealS_len]; simp [sealS]
  have hd : (sealS l).drop ((sealS l).length - 4) = ckB (refS l) := by rw [sealS_len]; simp [sealS]
  have h1 : okO (sealS l) = true := by
    simp only [okO, hb, hd, Bool.and_eq_true, decide_eq_true_eq, and_true]
    rw [sealS_len]; omega
  exact ⟨h1, by rw [okV, h1, if_pos rfl, hb]⟩
theorem good_Open (nil : Bool) (l : List (BitVec 8)) (hl : l.length ≤ 140737488355000) (hz : nil = true → l = []) : Good Try.prog 32 [(.sl 1 nil (bsl l), false)] [] [(.sl 1 (if okO l then nil else true) (bsl (okV l)), false), (.b (okO l), false)] [] := by
 refine good_of_body3 27 Try.func32 rfl rfl rfl (by simp) ?_
 intro s m ha hr hv hG
 have f0 : s 0 = .v (.sl 1 nil (bsl l)) := ha 0 _ rfl
 clear ha
 refine AW.sr (cfg := cfg) ?_
 iterate 2 (apply aops_step (by decide) rfl; · (intro K hK; simp (disch := first | omega | decide) only [go_sem, f0, sz22, pick_t, pick_f]; exact hK _))
 refine aops_nil ?_
 refine AW.sr (cfg := cfg) ?_
 iterate 4 (apply aops_step (by decide) rfl; · (intro K hK; simp (disch := first | omega | decide) only [go_sem, f0, List.map, List.length_map, aops_len u22, pick_t, pick_f]; exact hK _))
 refine aops_nil ?_
 refine AW.seq ?_
 refine AW.seq ?_
 by_cases hsp : (l.length : Int) - 4 < 0
 ·have hd := decide_eq_true hsp
  have b1 := trivial
  have b2 := trivial
  have b3 := trivial
  have b4 := trivial
  refine AW.draw (cfg := cfg) (by kernel_rfl) (by kernel_rfl) (by kernel_rfl) ?_
  iterate 3 (apply adraw_step rfl; · (intro K hK; simp (disch := first | omega | decide) only [go_sem, f0, hd, b1, b2, b3, b4, pick_t, pick_f]; exact hK))
  apply adraw_skip' rfl
  apply adraw_skip' rfl
  apply adraw_skip' rfl
  apply adraw_skip' rfl
  apply adraw_skip' rfl
  apply adraw_skip' rfl
  apply adraw_skip' rfl
  apply adraw_skip' rfl
  apply adraw_skip' rfl
  apply adraw_skip' rfl
  apply adraw_skip' rfl
  iterate 1 (apply adraw_step rfl; · (intro K hK; simp (disch := first | omega | decide) only [go_sem, f0, hd, b1, b2, b3, b4, pick_t, pick_f]; exact hK))
  refine adraw_nil (by kernel_rfl) ?_
  apply AW.cond
  ·(simp only [go_sem, f0, hd, b1, b2, b3, b4, pick_t, pick_f]; rfl)
  case hf => intro hb; simp at hb
  case ht =>
  intro hb
  have hbt22 := hb
  refine AW.sr (cfg := cfg) ?_
  iterate 2 (apply aops_step (by decide) rfl; · (intro K hK; simp (disch := first | omega | decide) only [go_sem, f0, hd, b1, b2, b3, b4, sz22, pick_t, pick_f]; exact hK _))
  refine aops_nil ?_
  refine AW.ret ?_
  refine ⟨.inr rfl, ?_⟩
  all_goals (have z : (l.length : Int) - 4 < 0 := hsp; obtain ⟨e1, e2⟩ := ok_no z; rw [e1, e2, if_neg (by simp)]; refine ⟨_, nilEq_nil (s := 1) (nilEq_refl _), ?_⟩; refine leaves_mwp2 (rs := [.tmp 2, .tmp 3]) rfl ?_; simp (config := {failIfUnchanged := false}) [giveL, srcOne, rehome, freezeN, sub, upd, opn, aLoad, loadL, giveOne, reify, reifyL, readL, readOne, Mwp, M.bind, Mem.set, setAt, cellsL, hG, f0, hd, b1, b2, b3, b4]; done)
 ·have hd := decide_eq_false hsp
  have b1 := body_int hsp
  have b2 := tail_int hsp
  have b3 : ofS [(nil, body l)] = refS (body l) := (ref_of nil (body l)).symm
  have b4 := (ok_is hsp).symm
  refine AW.draw (cfg := cfg) (by kernel_rfl) (by kernel_rfl) (by kernel_rfl) ?_
  iterate 6 (apply adraw_step rfl; · (intro K hK; simp (disch := first | omega | decide) only [go_sem, f0, hd, b1, b2, b3, b4, act_slice_s u22 ti5, pick_t, pick_f]; exact hK))
  apply adraw_step rfl
  ·intro K hK
   rw [act_bs el47 ti22]
   (simp [-List.map_take, -List.map_drop, -BitVec.toNat_ofInt, -BitVec.ofInt_natCast, -BitVec.toNat_setWidth, -BitVec.toNat_ushiftRight, -BitVec.toNat_umod, -BitVec.toNat_udiv, go_sem, elems_v, cellishAV, Value.oneCell', isAggAV, partsOf, TI.z, TI.mk1, f0, hd, b1, b2, b3, b4]; exact hK)
  apply adraw_step rfl
  ·intro K hK
   simp (disch := first | omega | decide) only [go_sem, f0, hd, b1, b2, b3, b4, act_call, List.map, pick_t, pick_f]
   apply mwp_call_s rfl rfl rfl
   ·intro Q hQ
    (simp (disch := first | omega | decide) only [go_sem, f0, hd, b1, b2, b3, b4, peekL, reifyL_nil, reifyL_cons, reify_v, pick_t, pick_f]; ((((rw [peek_own (by simp (disch := first | omega | decide) only [go_sem, f0, hd, b1, b2, b3, b4, peekL, reifyL_nil, reifyL_cons, reify_v, pick_t, pick_f]; rfl)]); (try rw [sub_full (by rfl)])); exact hQ)))
   ·exact U.good_Of false [(nil, body l)] (by simp) (by simp [body]; omega)
   ·simp [-List.map_take, -List.map_drop, -List.map_append, -List.map_replicate, -List.reduceReplicate, noPtrL, noPtr, noPtrL_bsl, noPtrL_map, sub]
   ·rfl
   ·exact hK
  apply adraw_step rfl
  ·intro K hK
   simp (disch := first | omega | decide) only [go_sem, f0, hd, b1, b2, b3, b4, act_call, List.map, pick_t, pick_f]
   apply mwp_call_r rfl rfl rfl
   ·intro Q hQ
    (simp (disch := first | omega | decide) only [go_sem, f0, hd, b1, b2, b3, b4, peekL, reifyL_nil, reifyL_cons, reify_v, pick_t, pick_f]; (exact hQ))
   ·exact good_bytes (refS (body l))
   ·simp [-List.map_take, -List.map_drop, -List.map_append, -List.map_replicate, -List.reduceReplicate, noPtrL, noPtr, noPtrL_bsl, noPtrL_map, sub]
   ·simp (disch := first | omega | decide) only [go_sem, f0, hd, b1, b2, b3, b4, pick_t, pick_f]
    exact hK
  iterate 3 (apply adraw_step rfl; · (intro K hK; simp (disch := first | omega | decide) only [go_sem, f0, hd, b1, b2, b3, b4, act_slice_s u22 ti5, pick_t, pick_f]; exact hK))
  apply adraw_step rfl
  ·intro K hK
   simp (disch := first | omega | decide) only [go_sem, f0, hd, b1, b2, b3, b4, act_call, List.map, pick_t, pick_f]
   apply mwp_call_s rfl rfl rfl
   ·intro Q hQ
    (simp (disch := first | omega | decide) only [go_sem, f0, hd, b1, b2, b3, b4, peekL, reifyL_nil, reifyL_cons, reify_v, pick_t, pick_f]; (exact hQ))
   ·exact good_Equal _ _ _ _ (by simp [ckB_len]) (by simp; omega)
   ·simp [-List.map_take, -List.map_drop, -List.map_append, -List.map_replicate, -List.reduceReplicate, noPtrL, noPtr, noPtrL_bsl, noPtrL_map, sub]
   ·rfl
   ·exact hK
  iterate 2 (apply adraw_step rfl; · (intro K hK; simp (disch := first | omega | decide) only [go_sem, f0, hd, b1, b2, b3, b4, pick_t, pick_f]; exact hK))
  refine adraw_nil (by kernel_rfl) ?_
  apply AW.cond
  ·(simp only [go_sem, f0, hd, b1, b2, b3, b4, pick_t, pick_f]; rfl)
  case ht =>
   intro hb
   try simp only [bo1, bo2, bo3, bo4, bo5, bo6] at hb
   have hbt22 := hb
   refine AW.sr (cfg := cfg) ?_
   iterate 2 (apply aops_step (by decide) rfl; · (intro K hK; simp (disch := first | omega | decide) only [go_sem, f0, hd, b1, b2, b3, b4, sz22, pick_t, pick_f]; exact hK _))
   refine aops_nil ?_
   refine AW.ret ?_
   refine ⟨.inr rfl, ?_⟩
   all_goals (have e1 : okO l = false := (by simpa using hbt22); have e2 : okV l = [] := (by simp [okV, e1]); rw [e1, e2, if_neg (by simp)]; refine ⟨_, nilEq_nil (s := 1) (nilEq_refl _), ?_⟩; refine leaves_mwp2 (rs := [.tmp 2, .tmp 3]) rfl ?_; simp (config := {failIfUnchanged := false}) [giveL, srcOne, rehome, freezeN, sub, upd, opn, aLoad, loadL, giveOne, reify, reifyL, readL, readOne, Mwp, M.bind, Mem.set, setAt, cellsL, hG, f0, hd, b1, b2, b3, b4]; done)
  case hf =>
   intro hb
   try simp only [bo1, bo2, bo3, bo4, bo5, bo6] at hb
   have hbt22 := hb
   refine AW.skip ?_
   refine AW.sr (cfg := cfg) ?_
   iterate 3 (apply aops_step (by decide) rfl; · (intro K hK; simp (disch := first | omega | decide) only [go_sem, f0, hd, b1, b2, b3, b4, act_slice_s u22 ti5, pick_t, pick_f]; exact hK _))
   apply aops_step (by decide) rfl
   ·intro K hK
    simp (disch := first | omega | decide) only [go_sem, f0, hd, b1, b2, b3, b4, act_call, List.map, pick_t, pick_f]
    apply mwp_call_r rfl rfl rfl
    ·intro Q hQ
     (simp (disch := first | omega | decide) only [go_sem, f0, hd, b1, b2, b3, b4, peekL, reifyL_nil, reifyL_cons, reify_v, pick_t, pick_f]; (exact hQ))
    ·exact O.good_Clone nil (body l) (by simp [body]; omega) (fun h => by rw [hz h]; rfl)
    ·simp [-List.map_take, -List.map_drop, -List.map_append, -List.map_replicate, -List.reduceReplicate, noPtrL, noPtr, noPtrL_bsl, noPtrL_map, sub]
    ·rw [resOf_own1 (by (simp (disch := decide) only [mset_ne, hr]; done))]
     exact hK _
   apply aops_step (by decide) rfl
   ·intro K hK
    simp (disch := first | omega | decide) only [go_sem, f0, hd, b1, b2, b3, b4, pick_t, pick_f]
    rw [asg_tmp (by simp (disch := first | omega | decide) only [go_sem, f0, hd, b1, b2, b3, b4, pick_t, pick_f]; rfl)]
    exact hK _
   iterate 1 (apply aops_step (by decide) rfl; · (intro K hK; simp (disch := first | omega | decide) only [go_sem, f0, hd, b1, b2, b3, b4, pick_t, pick_f]; exact hK _))
   refine aops_nil ?_
   refine AW.ret ?_
   refine ⟨.inr rfl, ?_⟩
   all_goals (have e1 : okO l = true := (by simpa using hbt22); have e2 : okV l = body l := (by simp [okV, e1]); rw [e1, e2, if_pos rfl]; refine leavesN ?_; refine leaves_mwp2 (rs := [.tmp 2, .tmp 3]) rfl ?_; simp (config := {failIfUnchanged := false}) [giveL, srcOne, rehome, freezeN, sub, upd, opn, aLoad, loadL, giveOne, reify, reifyL, readL, readOne, Mwp, M.bind, Mem.set, setAt, cellsL, hG, f0, hd, b1, b2, b3, b4]; (simp [List.take_of_length_le]; done))
end Go.Vai.Z
