import Derived.Test.YtblgcekomnnfmaagLsa2
namespace Go.Vai.L
open Go.Proofs Go.Vai Go.Vai.O
set_option linter.unusedSimpArgs false
set_option linter.unusedVariables false
set_option maxHeartbeats 4000000
set_option maxRecDepth 100000
theorem good_refRead (nil : Bool) (l : List (BitVec 8)) (hl : l.length ≤ 140737488355000) : Good Try.prog 38 [(.sl 1 nil (bsl l), false)] [] [(lsaA (rfL l), false), (i64 (rfN l), false)] [] := by
 refine good_of_body2 81 Try.func38 rfl rfl rfl (by simp) ?_
 intro s m ha hr hv hG
 have f0 : s 0 = .v (.sl 1 nil (bsl l)) := ha 0 _ rfl
 clear ha
 have hb8 := (l.getD 9 default).isLt
 refine AW.sr (cfg := cfg) ?_
 apply aops_step (by decide) rfl
 ·intro K hK
  simp (disch := first | omega | decide) only [go_sem, f0, act_alloc_t ti79, List.map, getD_get, Int.reduceToNat]
  exact hK _
 iterate 1 (apply aops_step (by decide) rfl; · (intro K hK; simp (disch := first | omega | decide) only [go_sem, f0, getD_get, Int.reduceToNat]; exact hK _))
 refine aops_nil ?_
 refine AW.seq ?_
 refine AW.sr (cfg := cfg) ?_
 iterate 4 (apply aops_step (by decide) rfl; · (intro K hK; simp (disch := first | omega | decide) only [go_sem, f0, List.map, List.length_map, aops_len u22, getD_get, Int.reduceToNat]; exact hK _))
 apply aops_merge' (by decide) (by exact want_of (d := 13) rfl (by simp only [go_sem, f0, opn_cond, getD_get, Int.reduceToNat]; rfl))
 ·intro hc K hK
  simp (disch := first | omega | decide) only [go_sem, f0, opn_cond, hc, if_true, getD_get, Int.reduceToNat]
  exact hK _
 apply aops_merge' (by decide) (by exact want_of (d := 13) rfl (by simp (disch := first | omega | decide) only [go_sem, f0, opn_cond, getD_get, Int.reduceToNat]; rfl))
 ·intro hc K hK
  simp (disch := first | omega | decide) only [go_sem, f0, opn_cond, hc, if_true, List.map, List.length_map, aops_len u22, getD_get, Int.reduceToNat]
  exact hK _
 apply aops_merge' (by decide) (by exact want_of (d := 13) rfl (by simp (disch := first | omega | decide) only [go_sem, f0, opn_cond, getD_get, Int.reduceToNat]; rfl))
 ·intro hc K hK
  simp (disch := first | omega | decide) only [go_sem, f0, opn_cond, hc, if_true, getD_get, Int.reduceToNat]
  exact hK _
 apply aops_merge' (by decide) (by exact want_of (d := 13) rfl (by simp (disch := first | omega | decide) only [go_sem, f0, opn_cond, getD_get, Int.reduceToNat]; rfl))
 ·intro hc K hK
  have hc2 := hc
  simp only [beq_iff_eq, decide_eq_true_eq, decide_eq_false_iff_not, Bool.or_eq_true, Bool.and_eq_true, Bool.or_eq_false_iff, Bool.and_eq_false_iff] at hc2
  simp (disch := first | omega | decide) only [opn_cond, hc, if_true, raw_tmp, raw_int, upd_same, upd_ne, opn_v, intOf_v, idxL_some, f0, act_indexAddr_s u22 ti5]
  rw [mwp_aIndex_getD (by omega) (by omega)]
  exact hK _
 apply aops_merge' (by decide) (by exact want_of (d := 13) rfl (by simp only [go_sem, f0, opn_cond, getD_get, Int.reduceToNat]; rfl))
 ·intro hc K hK
  simp (disch := first | omega | decide) only [go_sem, f0, opn_cond, hc, if_true, act_load_t ti5, getD_get, Int.reduceToNat]
  skip
  exact hK _
 apply aops_merge' (by decide) (by exact want_of (d := 13) rfl (by simp only [go_sem, f0, opn_cond, getD_get, Int.reduceToNat]; rfl))
 ·intro hc K hK
  have hc2 := hc
  simp only [beq_iff_eq, decide_eq_true_eq, decide_eq_false_iff_not, Bool.or_eq_true, Bool.and_eq_true, Bool.or_eq_false_iff, Bool.and_eq_false_iff] at hc2
  simp (disch := first | omega | decide) only [go_sem, f0, opn_cond, hc, if_true, act_convI u5 u3, getD_get, Int.reduceToNat]
  exact hK _
 apply aops_merge' (by decide) (by exact want_of (d := 13) rfl (by simp only [go_sem, f0, opn_cond, getD_get, Int.reduceToNat]; rfl))
 ·intro hc K hK
  have hc2 := hc
  simp only [beq_iff_eq, decide_eq_true_eq, decide_eq_false_iff_not, Bool.or_eq_true, Bool.and_eq_true, Bool.or_eq_false_iff, Bool.and_eq_false_iff] at hc2
  simp (disch := first | omega | decide) only [go_sem, f0, opn_cond, hc, if_true, getD_get, Int.reduceToNat]
  exact hK _
 apply aops_merge' (by decide) (by exact want_of (d := 13) rfl (by simp only [go_sem, f0, opn_cond, getD_get, Int.reduceToNat]; rfl))
 ·intro hc K hK
  have hc2 := hc
  simp only [beq_iff_eq, decide_eq_true_eq, decide_eq_false_iff_not, Bool.or_eq_true, Bool.and_eq_true, Bool.or_eq_false_iff, Bool.and_eq_false_iff] at hc2
  simp (disch := first | omega | decide) only [go_sem, f0, opn_cond, hc, if_true, getD_get, Int.reduceToNat]
  exact hK _
 apply aops_merge' (by decide) (by exact want_of (d := 13) rfl (by simp only [go_sem, f0, opn_cond, getD_get, Int.reduceToNat]; rfl))
 ·intro hc K hK
  simp (disch := first | omega | decide) only [go_sem, f0, opn_cond, hc, if_true, getD_get, Int.reduceToNat]
  exact hK _
 iterate 1 (apply aops_step (by decide) rfl; · (intro K hK; simp (disch := first | omega | decide) only [go_sem, f0, getD_get, Int.reduceToNat]; exact hK _))
 refine aops_nil ?_
 apply AW.cond
 ·(simp only [go_sem, f0, getD_get, Int.reduceToNat]; rfl)
 case ht =>
  intro hb
  try simp only [bo1, bo2, bo3, bo4, bo5, bo6] at hb
  have hbt23 := hb
  refine AW.sr (cfg := cfg) ?_
  apply aops_step (by decide) rfl
  ·intro K hK
   simp (disch := first | omega | decide) only [go_sem, f0, act_build_t ti79 pl79, List.map, getD_get, Int.reduceToNat]
   simp [-List.map_take, -List.map_drop, fillL, okOne, cellishAV, Value.oneCell', cellsL, cellsOf, setAt, M.bind, Mwp, mset_same, Obj.isArr]
   exact hK _
  apply aops_step0 rfl
  ·intro K hK
   simp (disch := first | omega | decide) only [go_sem, f0, act_store_t ti79, List.map, getD_get, Int.reduceToNat]
   rw [mwp_store_c (by simp (disch := first | omega | decide) only [go_sem, f0, getD_get, Int.reduceToNat]; rfl) (by rfl) (by rfl) (by rfl) (by simp)]
   (simp [-List.map_take, -List.map_drop, aStore, cellsL, settleL, settle, M.bind, Mwp, freezeN, cellishAV, Value.oneCell', setAt, sub, mset_same, mset_ne, List.take_of_length_le, f0])
   try simp only [setAt, cellsL, cellsOf_agg, cellsOf_base, List.map_cons, List.map_nil, List.set_cons_zero, List.set_cons_succ, Nat.reduceAdd, Nat.zero_add, hG]
   exact hK _
  iterate 1 (apply aops_step (by decide) rfl; · (intro K hK; simp (disch := first | omega | decide) only [go_sem, f0, getD_get, Int.reduceToNat]; exact hK _))
  refine aops_nil ?_
  refine AW.ret ?_
  refine ⟨.inr rfl, ?_⟩
  refine leaves_mwp2 (rs := [.cell 2 79, .tmp 3]) rfl ?_
  simp (config := {failIfUnchanged := false}) [giveL, srcOne, rehome, freezeN, sub, ti79, upd, opn, aLoad, loadL, giveOne, reify, reifyL, readL, readOne, Mwp, M.bind, Mem.set, setAt, cellsL, hG, f0]
  all_goals (have z : rfOK l = false := rf_short hbt23; simp [rfL, rfN, z, lsa0, lsaA]; done)
 case hf =>
  intro hb
  try simp only [bo1, bo2, bo3, bo4, bo5, bo6] at hb
  have hbt23 := hb
  refine AW.skip ?_
  refine AW.seq ?_
  have hlen : 10 + 5 * (l.getD 9 default).toNat ≤ l.length := (by omega)
  refine AW.region (cfg := cfg) ?_
  iterate 1 (apply aops_step (by decide) rfl; · (intro K hK; simp (disch := first | omega | decide) only [go_sem, f0, getD_get, Int.reduceToNat]; exact hK _))
  apply aops_step (by decide) rfl
  ·intro K hK
   simp (disch := first | omega | decide) only [go_sem, f0, act_build_t ti127 pl127, List.map, getD_get, Int.reduceToNat]
   simp [-List.map_take, -List.map_drop, fillL, okOne, cellishAV, Value.oneCell', cellsL, cellsOf, setAt, M.bind, Mwp, mset_same, Obj.isArr]
   exact hK _
  apply aops_step (by decide) rfl
  ·intro K hK
   simp (disch := first | omega | decide) only [go_sem, f0, act_call, List.map, getD_get, Int.reduceToNat]
   apply mwp_call_r rfl rfl rfl
   ·intro Q hQ
    (simp (disch := first | omega | decide) only [go_sem, f0, peekL, reifyL_nil, reifyL_cons, reify_v, getD_get, Int.reduceToNat]; (exact hQ))
   ·exact O.good_refReadNum nil l 1 false (by omega) (by omega) 8
   ·simp [-List.map_take, -List.map_drop, -List.map_append, -List.map_replicate, -List.reduceReplicate, noPtrL, noPtr, noPtrL_bsl, noPtrL_map, sub]
   ·simp (disch := first | omega | decide) only [go_sem, f0, getD_get, Int.reduceToNat]
    exact hK _
  iterate 3 (apply aops_step (by decide) rfl; · (intro K hK; simp (disch := first | omega | decide) only [go_sem, f0, getD_get, Int.reduceToNat]; exact hK _))
  apply aops_step (by decide) rfl
  ·intro K hK
   simp (disch := first | omega | decide) only [go_sem, f0, act_alloc_t ti127, List.map, getD_get, Int.reduceToNat]
   exact hK _
  apply aops_step0 rfl
  ·intro K hK
   simp (disch := first | omega | decide) only [go_sem, f0, act_store_t ti127, List.map, getD_get, Int.reduceToNat]
   rw [mwp_store_c (by simp (disch := first | omega | decide) only [go_sem, f0, getD_get, Int.reduceToNat]; rfl) (by rfl) (by rfl) (by rfl) (by simp)]
   (simp [-List.map_take, -List.map_drop, aStore, cellsL, settleL, settle, M.bind, Mwp, freezeN, cellishAV, Value.oneCell', setAt, sub, mset_same, mset_ne, List.take_of_length_le, f0])
   try simp only [setAt, cellsL, cellsOf_agg, cellsOf_base, List.map_cons, List.map_nil, List.set_cons_zero, List.set_cons_succ, Nat.reduceAdd, Nat.zero_add, hG]
   exact hK _
  iterate 1 (apply aops_step (by decide) rfl; · (intro K hK; simp (disch := first | omega | decide) only [go_sem, f0, getD_get, Int.reduceToNat]; exact hK _))
  refine aops_nil ?_
  refine AW.sr (cfg := cfg) ?_
  iterate 1 (apply aops_step (by decide) rfl; · (intro K hK; simp (disch := first | omega | decide) only [go_sem, f0, getD_get, Int.reduceToNat]; exact hK _))
  apply aops_step (by decide) rfl
  ·intro K hK
   simp (disch := first | omega | decide) only [go_sem, f0, act_indexAddr_s u22 ti5, List.map, getD_get, Int.reduceToNat]
   skip
   exact hK _
  apply aops_step (by decide) rfl
  ·intro K hK
   simp (disch := first | omega | decide) only [go_sem, f0, act_load_t ti5, List.map, getD_get, Int.reduceToNat]
   skip
   exact hK _
  iterate 3 (apply aops_step (by decide) rfl; · (intro K hK; simp (disch := first | omega | decide) only [go_sem, f0, act_convI u5 u3, act_convI u71 u3, getD_get, Int.reduceToNat]; exact hK _))
  apply aops_step (by decide) rfl
  ·intro K hK
   simp (disch := first | omega | decide) only [go_sem, f0, act_build_t ti79 pl79, List.map, getD_get, Int.reduceToNat]
   simp [-List.map_take, -List.map_drop, fillL, okOne, cellishAV, Value.oneCell', cellsL, cellsOf, setAt, M.bind, Mwp, mset_same, Obj.isArr]
   exact hK _
  apply aops_step (by decide) rfl
  ·intro K hK
   simp (disch := first | omega | decide) only [go_sem, f0, act_alloc_t ti79, List.map, getD_get, Int.reduceToNat]
   exact hK _
  apply aops_step0 rfl
  ·intro K hK
   simp (disch := first | omega | decide) only [go_sem, f0, act_store_t ti79, List.map, getD_get, Int.reduceToNat]
   rw [mwp_store_c (by simp (disch := first | omega | decide) only [go_sem, f0, getD_get, Int.reduceToNat]; rfl) (by rfl) (by rfl) (by rfl) (by simp)]
   (simp [-List.map_take, -List.map_drop, aStore, cellsL, settleL, settle, M.bind, Mwp, freezeN, cellishAV, Value.oneCell', setAt, sub, mset_same, mset_ne, List.take_of_length_le, f0])
   try simp only [setAt, cellsL, cellsOf_agg, cellsOf_base, List.map_cons, List.map_nil, List.set_cons_zero, List.set_cons_succ, Nat.reduceAdd, Nat.zero_add, hG]
   exact hK _
  refine aops_nil ?_
  refine AW.seq ?_
  refine AW.seq ?_
  refine AW.cellNil 6 2 2 (by simp (disch := first | omega | decide) only [go_sem, f0, getD_get, Int.reduceToNat]; rfl) (by rfl) ?_
  refine AW.region (cfg := cfg) ?_
  iterate 1 (apply aops_step (by decide) rfl; · (intro K hK; simp (disch := first | omega | decide) only [go_sem, f0, getD_get, Int.reduceToNat]; exact hK _))
  refine aops_nil ?_
  refine AW.block ?_
  refine AW.forN (fun k σ => ∃ s m, σ = ⟨81, s, m⟩ ∧ s 0 = .v (.sl 1 nil (bsl l)) ∧ s 2 = .lptr (.tmp 2 0) (m.objs (.tmp 2 0)).1 0 ∧ (m.objs (.tmp 2 0)).2 = .box [.v (i64 0), .v (i64 0), .v (.sl 2 true [])] ∧ s 6 = .lptr (.tmp 6 0) (m.objs (.tmp 6 0)).1 0 ∧ (m.objs (.tmp 6 0)).2 = .box [.v (i64 ((l.getD 0 default).toNat : Int)), .v (i64 (IntKind.i64.wrap (rV l 1 false 8))), .own (.cell 6 2) (m.objs (.cell 6 2)).1 0 k] ∧ (m.objs (.cell 6 2)).2 = .arr (rfLinks l k).isEmpty 2 ((rfLinks l k).map linkA) ∧ s 7 = .v (i64 (k : Int)) ∧ m.G = []) ((l.getD 9 default).toNat) ?_ ?_ ?_
  ·refine ⟨_, _, rfl, ?_, ?_, ?_, ?_, ?_, ?_, ?_, (by exact hG)⟩ <;> try simp (disch := first | omega | decide) only [go_sem, f0, getD_get, Int.reduceToNat]
   all_goals rfl
  ·clear f0 hG
   rintro k σ hk ⟨s, m, rfl, f0, f2, o2, f6, o6, o6c2, f7, hG⟩
   obtain ⟨g2, o2⟩ : ∃ g, m.objs (.tmp 2 0) = (g, .box [.v (i64 0), .v (i64 0), .v (.sl 2 true [])]) := ⟨_, Prod.ext rfl o2⟩
   rw [o2] at f2
   obtain ⟨g6c2, o6c2⟩ : ∃ g, m.objs (.cell 6 2) = (g, .arr (rfLinks l k).isEmpty 2 ((rfLinks l k).map linkA)) := ⟨_, Prod.ext rfl o6c2⟩
   rw [o6c2] at o6
   simp only at o6
   obtain ⟨g6, o6⟩ : ∃ g, m.objs (.tmp 6 0) = (g, .box [.v (i64 ((l.getD 0 default).toNat : Int)), .v (i64 (IntKind.i64.wrap (rV l 1 false 8))), .own (.cell 6 2) g6c2 0 k]) := ⟨_, Prod.ext rfl o6⟩
   rw [o6] at f6
   refine AW.seq ?_
   refine AW.sr (cfg := cfg) ?_
   iterate 2 (apply aops_step (by decide) rfl; · (intro K hK; simp (disch := first | omega | decide) only [go_sem, f0, f2, f6, f7, o2, o6, o6c2, getD_get, Int.reduceToNat]; exact hK _))
   apply aops_step (by decide) rfl
   ·intro K hK
    simp (disch := first | omega | decide) only [go_sem, f0, f2, f6, f7, o2, o6, o6c2, act_indexAddr_s u22 ti5, List.map, getD_get, Int.reduceToNat]
    skip
    exact hK _
   apply aops_step (by decide) rfl
   ·intro K hK
    simp (disch := first | omega | decide) only [go_sem, f0, f2, f6, f7, o2, o6, o6c2, act_load_t ti5, List.map, getD_get, Int.reduceToNat]
    skip
    exact hK _
   iterate 2 (apply aops_step (by decide) rfl; · (intro K hK; simp (disch := first | omega | decide) only [go_sem, f0, f2, f6, f7, o2, o6, o6c2, act_convI u5 u3, getD_get, Int.reduceToNat]; exact hK _))
   refine aops_nil ?_
   apply AW.cond
   ·(simp only [go_sem, f0, f2, f6, f7, o2, o6, o6c2, getD_get, Int.reduceToNat]; rfl)
   case hf => intro hb; (have hb1 := of_decide_eq_false hb; omega)
   case ht =>
   intro hb
   have hbt43 := hb
   refine AW.skip ?_
   refine AW.seq ?_
   refine AW.block ?_
   refine AW.seq ?_
   have gr := O.good_refReadNum nil l (11 + 5 * k) false (by omega) (by omega) 4
   rw [show ((11 + 5 * k : Nat) : Int) = 11 + 5 * (k : Int) by omega] at gr
   have rr := rV_range4 l (11 + 5 * k) false
   refine AW.region (cfg := cfg) ?_
   iterate 4 (apply aops_step (by decide) rfl; · (intro K hK; simp (disch := first | omega | decide) only [go_sem, f0, f2, f6, f7, o2, o6, o6c2, getD_get, Int.reduceToNat]; exact hK _))
   apply aops_step (by decide) rfl
   ·intro K hK
    simp (disch := first | omega | decide) only [go_sem, f0, f2, f6, f7, o2, o6, o6c2, act_build_t ti127 pl127, List.map, getD_get, Int.reduceToNat]
    simp [-List.map_take, -List.map_drop, fillL, okOne, cellishAV, Value.oneCell', cellsL, cellsOf, setAt, M.bind, Mwp, mset_same, Obj.isArr, o2, o6, o6c2]
    exact hK _
   apply aops_step (by decide) rfl
   ·intro K hK
    simp (disch := first | omega | decide) only [go_sem, f0, f2, f6, f7, o2, o6, o6c2, act_call, List.map, getD_get, Int.reduceToNat]
    apply mwp_call_r rfl rfl rfl
    ·intro Q hQ
     (simp (disch := first | omega | decide) only [go_sem, f0, f2, f6, f7, o2, o6, o6c2, peekL, reifyL_nil, reifyL_cons, reify_v, getD_get, Int.reduceToNat]; (exact hQ))
    ·exact gr
    ·simp [-List.map_take, -List.map_drop, -List.map_append, -List.map_replicate, -List.reduceReplicate, noPtrL, noPtr, noPtrL_bsl, noPtrL_map, sub]
    ·simp (disch := first | omega | decide) only [go_sem, f0, f2, f6, f7, o2, o6, o6c2, getD_get, Int.reduceToNat]
     exact hK _
   iterate 3 (apply aops_step (by decide) rfl; · (intro K hK; simp (disch := first | omega | decide) only [go_sem, f0, f2, f6, f7, o2, o6, o6c2, getD_get, Int.reduceToNat]; exact hK _))
   apply aops_step (by decide) rfl
   ·intro K hK
    simp (disch := first | omega | decide) only [go_sem, f0, f2, f6, f7, o2, o6, o6c2, act_alloc_t ti127, List.map, getD_get, Int.reduceToNat]
    exact hK _
   apply aops_step0 rfl
   ·intro K hK
    simp (disch := first | omega | decide) only [go_sem, f0, f2, f6, f7, o2, o6, o6c2, act_store_t ti127, List.map, getD_get, Int.reduceToNat]
    rw [mwp_store_c (by simp (disch := first | omega | decide) only [go_sem, f0, f2, f6, f7, o2, o6, o6c2, getD_get, Int.reduceToNat]; rfl) (by rfl) (by rfl) (by rfl) (by simp)]
    (simp [-List.map_take, -List.map_drop, aStore, cellsL, settleL, settle, M.bind, Mwp, freezeN, cellishAV, Value.oneCell', setAt, sub, mset_same, mset_ne, List.take_of_length_le, f0, f2, f6, f7, o2, o6, o6c2])
    try simp only [setAt, cellsL, cellsOf_agg, cellsOf_base, List.map_cons, List.map_nil, List.set_cons_zero, List.set_cons_succ, Nat.reduceAdd, Nat.zero_add, hG]
    exact hK _
   iterate 1 (apply aops_step (by decide) rfl; · (intro K hK; simp (disch := first | omega | decide) only [go_sem, f0, f2, f6, f7, o2, o6, o6c2, getD_get, Int.reduceToNat]; exact hK _))
   refine aops_nil ?_
   have tk : (10 + 5 * (k : Int)).toNat = 10 + 5 * k := by omega
   refine AW.draw (cfg := cfg) (by kernel_rfl) (by kernel_rfl) (by kernel_rfl) ?_
   apply adraw_step rfl
   ·intro K hK
    simp (disch := first | omega | decide) only [go_sem, f0, f2, f6, f7, o2, o6, o6c2, tk, act_fieldAddr_t fo79_2, List.map, getD_get, Int.reduceToNat]
    rw [mwp_fieldAddr_b (by simp (disch := first | omega | decide) only [go_sem, f0, f2, f6, f7, o2, o6, o6c2, tk, getD_get, Int.reduceToNat]; rfl)]
    exact hK
   apply adraw_step rfl
   ·intro K hK
    simp (disch := first | omega | decide) only [go_sem, f0, f2, f6, f7, o2, o6, o6c2, tk, act_load_t ti77, List.map, getD_get, Int.reduceToNat]
    rw [mwp_load_b1 (by simp (disch := first | omega | decide) only [go_sem, f0, f2, f6, f7, o2, o6, o6c2, tk, getD_get, Int.reduceToNat]; rfl) (by rfl)]
    exact hK
   iterate 4 (apply adraw_step rfl; · (intro K hK; simp (disch := first | omega | decide) only [go_sem, f0, f2, f6, f7, o2, o6, o6c2, tk, getD_get, Int.reduceToNat]; exact hK))
   apply adraw_step rfl
   ·intro K hK
    simp (disch := first | omega | decide) only [go_sem, f0, f2, f6, f7, o2, o6, o6c2, tk, act_indexAddr_s u22 ti5, List.map, getD_get, Int.reduceToNat]
    skip
    exact hK
   apply adraw_step rfl
   ·intro K hK
    simp (disch := first | omega | decide) only [go_sem, f0, f2, f6, f7, o2, o6, o6c2, tk, act_load_t ti5, List.map, getD_get, Int.reduceToNat]
    skip
    exact hK
   iterate 3 (apply adraw_step rfl; · (intro K hK; simp (disch := first | omega | decide) only [go_sem, f0, f2, f6, f7, o2, o6, o6c2, tk, act_convI u5 u3, act_convI u71 u3, getD_get, Int.reduceToNat]; exact hK))
   apply adraw_step rfl
   ·intro K hK
    simp (disch := first | omega | decide) only [go_sem, f0, f2, f6, f7, o2, o6, o6c2, tk, act_build_t ti124 pl124, List.map, getD_get, Int.reduceToNat]
    simp [-List.map_take, -List.map_drop, fillL, okOne, cellishAV, Value.oneCell', cellsL, cellsOf, setAt, M.bind, Mwp, mset_same, Obj.isArr, o2, o6, o6c2]
    exact hK
   apply adraw_step rfl
   ·intro K hK
    rw [act_bs el77 ti124]
    (simp [-List.map_take, -List.map_drop, -BitVec.toNat_ofInt, -BitVec.ofInt_natCast, -BitVec.toNat_setWidth, -BitVec.toNat_ushiftRight, -BitVec.toNat_umod, -BitVec.toNat_udiv, go_sem, elems_v, cellishAV, Value.oneCell', isAggAV, partsOf, TI.z, TI.mk1, f0, f2, f6, f7, o2, o6, o6c2, tk]; exact hK)
   apply adraw_step rfl
   ·intro K hK
    simp (disch := first | omega | decide) only [go_sem, f0, f2, f6, f7, o2, o6, o6c2, tk, List.map, getD_get, Int.reduceToNat]
    apply mwp_append2 el77 ti124 u77
    case hpk => intro Q hQ; (rw [peek_own (by simp (disch := first | omega | decide) only [go_sem, f0, f2, f6, f7, o2, o6, o6c2, tk, getD_get, Int.reduceToNat]; rfl)]; (try rw [sub_full (by rfl)]); exact hQ)
    case hs' => rfl
    case ho => simp (disch := first | omega | decide) only [go_sem, f0, f2, f6, f7, o2, o6, o6c2, tk, getD_get, Int.reduceToNat]; rfl
    case hsz => rfl
    case hhi => (simp [rfLinks_length]; done)
    case hb => (simp [sub, roomB, rfLinks_length]; omega)
    case hy => exact all_cells rfl
    case k => (try simp only [List.nil_append, ← List.map_append, Bool.false_and]); exact hK
   apply adraw_step rfl
   ·intro K hK
    simp (disch := first | omega | decide) only [go_sem, f0, f2, f6, f7, o2, o6, o6c2, tk, act_fieldAddr_t fo79_2, List.map, getD_get, Int.reduceToNat]
    rw [mwp_fieldAddr_b (by simp (disch := first | omega | decide) only [go_sem, f0, f2, f6, f7, o2, o6, o6c2, tk, getD_get, Int.reduceToNat]; rfl)]
    exact hK
   apply adraw_step0 rfl
   ·intro K hK
    simp (disch := first | omega | decide) only [go_sem, f0, f2, f6, f7, o2, o6, o6c2, tk, act_store_t ti77, List.map, getD_get, Int.reduceToNat]
    rw [mwp_store_o (by simp (disch := first | omega | decide) only [go_sem, f0, f2, f6, f7, o2, o6, o6c2, tk, getD_get, Int.reduceToNat]; rfl) (by simp (disch := first | omega | decide) only [go_sem, f0, f2, f6, f7, o2, o6, o6c2, tk, getD_get, Int.reduceToNat]; rfl) (by decide) (by simp)]
    (simp [-List.map_take, -List.map_drop, aStore, cellsL, settleL, settle, M.bind, Mwp, freezeN, cellishAV, Value.oneCell', setAt, sub, mset_same, mset_ne, List.take_of_length_le, f0, f2, f6, f7, o2, o6, o6c2, tk])
    try simp only [setAt, cellsL, cellsOf_agg, cellsOf_base, List.map_cons, List.map_nil, List.set_cons_zero, List.set_cons_succ, Nat.reduceAdd, Nat.zero_add, hG]
    exact hK
   refine adraw_nil (by kernel_rfl) ?_
   refine AW.region (cfg := cfg) ?_
   iterate 3 (apply aops_step (by decide) rfl; · (intro K hK; simp (disch := first | omega | decide) only [go_sem, f0, f2, f6, f7, o2, o6, o6c2, tk, getD_get, Int.reduceToNat]; exact hK _))
   refine aops_nil ?_
   refine ⟨_, _, rfl, ?_, ?_, ?_, ?_, ?_, ?_, ?_, (by exact hG)⟩ <;> try simp (disch := first | omega | decide) only [go_sem, f0, f2, f6, f7, o2, o6, o6c2, tk, getD_get, Int.reduceToNat]
   all_goals first | rfl | (rw [rfLinks_succ]; simp [linkA, rfLink]; done)
  ·clear f0 hG
   rintro σ ⟨s, m, rfl, f0, f2, o2, f6, o6, o6c2, f7, hG⟩
   obtain ⟨g2, o2⟩ : ∃ g, m.objs (.tmp 2 0) = (g, .box [.v (i64 0), .v (i64 0), .v (.sl 2 true [])]) := ⟨_, Prod.ext rfl o2⟩
   rw [o2] at f2
   obtain ⟨g6c2, o6c2⟩ : ∃ g, m.objs (.cell 6 2) = (g, .arr (rfLinks l ((l.getD 9 default).toNat)).isEmpty 2 ((rfLinks l ((l.getD 9 default).toNat)).map linkA)) := ⟨_, Prod.ext rfl o6c2⟩
   rw [o6c2] at o6
   simp only at o6
   obtain ⟨g6, o6⟩ : ∃ g, m.objs (.tmp 6 0) = (g, .box [.v (i64 ((l.getD 0 default).toNat : Int)), .v (i64 (IntKind.i64.wrap (rV l 1 false 8))), .own (.cell 6 2) g6c2 0 ((l.getD 9 default).toNat)]) := ⟨_, Prod.ext rfl o6⟩
   rw [o6] at f6
   refine AW.seq ?_
   refine AW.sr (cfg := cfg) ?_
   iterate 2 (apply aops_step (by decide) rfl; · (intro K hK; simp (disch := first | omega | decide) only [go_sem, f0, f2, f6, f7, o2, o6, o6c2, getD_get, Int.reduceToNat]; exact hK _))
   apply aops_step (by decide) rfl
   ·intro K hK
    simp (disch := first | omega | decide) only [go_sem, f0, f2, f6, f7, o2, o6, o6c2, act_indexAddr_s u22 ti5, List.map, getD_get, Int.reduceToNat]
    skip
    exact hK _
   apply aops_step (by decide) rfl
   ·intro K hK
    simp (disch := first | omega | decide) only [go_sem, f0, f2, f6, f7, o2, o6, o6c2, act_load_t ti5, List.map, getD_get, Int.reduceToNat]
    skip
    exact hK _
   iterate 2 (apply aops_step (by decide) rfl; · (intro K hK; simp (disch := first | omega | decide) only [go_sem, f0, f2, f6, f7, o2, o6, o6c2, act_convI u5 u3, getD_get, Int.reduceToNat]; exact hK _))
   refine aops_nil ?_
   apply AW.cond
   ·(simp only [go_sem, f0, f2, f6, f7, o2, o6, o6c2, getD_get, Int.reduceToNat]; rfl)
   case ht => intro hb; (simp at hb; done)
   case hf =>
   intro hb
   have hbt43 := hb
   refine AW.exit ?_
   refine AW.seq ?_
   refine AW.sr (cfg := cfg) ?_
   apply aops_step (by decide) rfl
   ·intro K hK
    simp (disch := first | omega | decide) only [go_sem, f0, f2, f6, f7, o2, o6, o6c2, act_load_t ti79, List.map, getD_get, Int.reduceToNat]
    rw [mwp_load_bs (by simp (disch := first | omega | decide) only [go_sem, f0, f2, f6, f7, o2, o6, o6c2, getD_get, Int.reduceToNat]; rfl) (by simp [setAt])]
    try simp only [List.drop_zero, List.drop_succ_cons, List.take_succ_cons, List.take_zero]
    exact hK _
   apply aops_step (by decide) rfl
   ·intro K hK
    simp (disch := first | omega | decide) only [go_sem, f0, f2, f6, f7, o2, o6, o6c2, act_call, List.map, getD_get, Int.reduceToNat]
    apply mwp_call_s rfl rfl rfl
    ·intro Q hQ
     (simp (disch := first | omega | decide) only [go_sem, f0, f2, f6, f7, o2, o6, o6c2, peekL, reifyL_nil, reifyL_cons, reify_v, getD_get, Int.reduceToNat]; ((((rw [peek_own (by simp (disch := first | omega | decide) only [go_sem, f0, f2, f6, f7, o2, o6, o6c2, peekL, reifyL_nil, reifyL_cons, reify_v, getD_get, Int.reduceToNat]; rfl)]); (try rw [sub_full (by (simp [rfLinks_length]; done))])); exact hQ)))
    ·exact good_refMay _ _ _ _ (by rw [rfLinks_length]; omega)
    ·simp [-List.map_take, -List.map_drop, -List.map_append, -List.map_replicate, -List.reduceReplicate, noPtrL, noPtr, noPtrL_bsl, noPtrL_map, sub]
    ·rfl
    ·exact hK _
   iterate 1 (apply aops_step (by decide) rfl; · (intro K hK; simp (disch := first | omega | decide) only [go_sem, f0, f2, f6, f7, o2, o6, o6c2, getD_get, Int.reduceToNat]; exact hK _))
   refine aops_nil ?_
   apply AW.cond
   ·(simp only [go_sem, f0, f2, f6, f7, o2, o6, o6c2, getD_get, Int.reduceToNat]; rfl)
   case ht =>
    intro hb
    try simp only [bo1, bo2, bo3, bo4, bo5, bo6] at hb
    have hbt72 := hb
    refine AW.sr (cfg := cfg) ?_
    apply aops_step (by decide) rfl
    ·intro K hK
     simp (disch := first | omega | decide) only [go_sem, f0, f2, f6, f7, o2, o6, o6c2, act_build_t ti79 pl79, List.map, getD_get, Int.reduceToNat]
     simp [-List.map_take, -List.map_drop, fillL, okOne, cellishAV, Value.oneCell', cellsL, cellsOf, setAt, M.bind, Mwp, mset_same, Obj.isArr, o2, o6, o6c2]
     exact hK _
    apply aops_step0 rfl
    ·intro K hK
     simp (disch := first | omega | decide) only [go_sem, f0, f2, f6, f7, o2, o6, o6c2, act_store_t ti79, List.map, getD_get, Int.reduceToNat]
     rw [mwp_store_c (by simp (disch := first | omega | decide) only [go_sem, f0, f2, f6, f7, o2, o6, o6c2, getD_get, Int.reduceToNat]; rfl) (by rfl) (by rfl) (by rfl) (by simp)]
     (simp [-List.map_take, -List.map_drop, aStore, cellsL, settleL, settle, M.bind, Mwp, freezeN, cellishAV, Value.oneCell', setAt, sub, mset_same, mset_ne, List.take_of_length_le, f0, f2, f6, f7, o2, o6, o6c2])
     try simp only [setAt, cellsL, cellsOf_agg, cellsOf_base, List.map_cons, List.map_nil, List.set_cons_zero, List.set_cons_succ, Nat.reduceAdd, Nat.zero_add, hG]
     exact hK _
    iterate 1 (apply aops_step (by decide) rfl; · (intro K hK; simp (disch := first | omega | decide) only [go_sem, f0, f2, f6, f7, o2, o6, o6c2, getD_get, Int.reduceToNat]; exact hK _))
    refine aops_nil ?_
    refine AW.ret ?_
    refine ⟨.inr rfl, ?_⟩
    refine leaves_mwp2 (rs := [.cell 2 79, .tmp 3]) rfl ?_
    simp (config := {failIfUnchanged := false}) [giveL, srcOne, rehome, freezeN, sub, ti79, upd, opn, aLoad, loadL, giveOne, reify, reifyL, readL, readOne, Mwp, M.bind, Mem.set, setAt, cellsL, hG, f0, f2, f6, f7, o2, o6, o6c2]
    all_goals (have z : rfOK l = false := ((rf_long hbt23).trans (bnot_t hbt72)); simp [rfL, rfN, z, lsa0, lsaA]; done)
   case hf =>
    intro hb
    try simp only [bo1, bo2, bo3, bo4, bo5, bo6] at hb
    have hbt72 := hb
    refine AW.skip ?_
    refine AW.seq ?_
    refine AW.draw (cfg := cfg) (by kernel_rfl) (by kernel_rfl) (by kernel_rfl) ?_
    apply adraw_step rfl
    ·intro K hK
     simp (disch := first | omega | decide) only [go_sem, f0, f2, f6, f7, o2, o6, o6c2, act_load_t ti79, List.map, getD_get, Int.reduceToNat]
     rw [mwp_load_bs (by simp (disch := first | omega | decide) only [go_sem, f0, f2, f6, f7, o2, o6, o6c2, getD_get, Int.reduceToNat]; rfl) (by simp [setAt])]
     try simp only [List.drop_zero, List.drop_succ_cons, List.take_succ_cons, List.take_zero]
     exact hK
    iterate 1 (apply adraw_step rfl; · (intro K hK; simp (disch := first | omega | decide) only [go_sem, f0, f2, f6, f7, o2, o6, o6c2, getD_get, Int.reduceToNat]; exact hK))
    apply adraw_step rfl
    ·intro K hK
     simp (disch := first | omega | decide) only [go_sem, f0, f2, f6, f7, o2, o6, o6c2, act_indexAddr_s u22 ti5, List.map, getD_get, Int.reduceToNat]
     skip
     exact hK
    apply adraw_step rfl
    ·intro K hK
     simp (disch := first | omega | decide) only [go_sem, f0, f2, f6, f7, o2, o6, o6c2, act_load_t ti5, List.map, getD_get, Int.reduceToNat]
     skip
     exact hK
    iterate 3 (apply adraw_step rfl; · (intro K hK; simp (disch := first | omega | decide) only [go_sem, f0, f2, f6, f7, o2, o6, o6c2, act_convI u5 u3, getD_get, Int.reduceToNat]; exact hK))
    apply adraw_step0 rfl
    ·intro K hK
     simp (disch := first | omega | decide) only [go_sem, f0, f2, f6, f7, o2, o6, o6c2, act_store_t ti79, List.map, getD_get, Int.reduceToNat]
     skip
     (simp [-List.map_take, -List.map_drop, aStore, cellsL, settleL, settle, M.bind, Mwp, freezeN, cellishAV, Value.oneCell', setAt, sub, mset_same, mset_ne, List.take_of_length_le, f0, f2, f6, f7, o2, o6, o6c2])
     try simp only [setAt, cellsL, cellsOf_agg, cellsOf_base, List.map_cons, List.map_nil, List.set_cons_zero, List.set_cons_succ, Nat.reduceAdd, Nat.zero_add, hG]
     exact hK
    iterate 1 (apply adraw_step rfl; · (intro K hK; simp (disch := first | omega | decide) only [go_sem, f0, f2, f6, f7, o2, o6, o6c2, getD_get, Int.reduceToNat]; exact hK))
    refine adraw_nil (by kernel_rfl) ?_
    refine AW.ret ?_
    refine ⟨.inr rfl, ?_⟩
    refine leaves_mwp2 (rs := [.cell 2 79, .tmp 3]) rfl ?_
    simp (config := {failIfUnchanged := false}) [giveL, srcOne, rehome, freezeN, sub, ti79, upd, opn, aLoad, loadL, giveOne, reify, reifyL, readL, readOne, Mwp, M.bind, Mem.set, setAt, cellsL, hG, f0, f2, f6, f7, o2, o6, o6c2]
    all_goals (have z : rfOK l = true := ((rf_long hbt23).trans (bnot_f hbt72)); simp [rfL, rfN, z, rfRaw, lsaA, rfB, List.take_of_length_le, rfLinks_length]; done)
end Go.Vai.L
