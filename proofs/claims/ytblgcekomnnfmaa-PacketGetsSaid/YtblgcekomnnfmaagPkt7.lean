import Derived.Test.YtblgcekomnnfmaagPkt6
import Derived.Test.YtblgcekomnnfmaaVaiD
namespace Go.Vai.P
open Go.Proofs Go.Vai Go.Vai.G Go.Vai.L Go.Vai.O Go.Vai.U Go.Vai.Z
set_option linter.unusedSimpArgs false
set_option linter.unusedVariables false
set_option maxHeartbeats 4000000
set_option maxRecDepth 100000
theorem good_GetK (nil : Bool) (l : List (BitVec 8)) (hl : l.length ≤ 140737488355000) (hz : nil = true → l = []) : Good Try.prog 10 [(.sl 1 nil (bsl l), false)] [] [(pktA (pkV l), false), (i64 (pkR l), false)] [] := by
 refine good_of_body4 117 Try.func10 rfl rfl rfl (by simp) (by simp) (by simp [noPtrL, noPtr]) (by simp [noPtrL, noPtr]) ?_
 intro s m ha hr hv hG
 have f0 : s 0 = .v (.sl 1 nil (bsl l)) := ha 0 _ rfl
 clear ha
 obtain ⟨i, hi⟩ : ∃ i, i = okV l := ⟨_, rfl⟩
 obtain ⟨nv, hnv⟩ : ∃ nv, nv = (if okO l = true then nil else true) := ⟨_, rfl⟩
 have gO := Z.good_Open nil l (by omega) hz
 have hzn := okV_nil (l := l) hz
 have hil := okV_len l
 rw [← hnv, ← hi] at gO
 rw [← hnv, ← hi] at hzn
 rw [← hi] at hil
 have hin : i.length ≤ 140737488355000 := by omega
 have wq := okR_q7 (nv := nv) (i := i) hzn
 have wl : ∀ k, okR nv i.length (loopP (kOf i) (q7 i) k).p := fun k => okR_loop wq.2.2 k
 have b0 : 0 ≤ kOf i ∧ kOf i < 256 := rv1_bd (i, false)
 have b1 := rv1_bd (q1 i)
 have b2 := rv4_bd (q2 i)
 have b3 := rv1_bd (q3 i)
 have b4 := rv4_bd (q4 i)
 have b5 := epOf_bd i
 have b6 := teOf_bd i
 have b7 := nOf_bd i
 refine AW.sr (cfg := cfg) ?_
 apply aops_step (by decide) rfl
 ·intro K hK
  simp (disch := first | omega | decide) only [go_sem, f0, act_alloc_t ti28, List.map]
  exact hK _
 iterate 1 (apply aops_step (by decide) rfl; · (intro K hK; simp (disch := first | omega | decide) only [go_sem, f0]; exact hK _))
 refine aops_nil ?_
 refine AW.sr (cfg := cfg) ?_
 iterate 1 (apply aops_step (by decide) rfl; · (intro K hK; simp (disch := first | omega | decide) only [go_sem, f0]; exact hK _))
 apply aops_step (by decide) rfl
 ·intro K hK
  simp (disch := first | omega | decide) only [go_sem, f0, act_call, List.map]
  apply mwp_call_r rfl rfl rfl
  ·intro Q hQ
   (simp (disch := first | omega | decide) only [go_sem, f0, peekL, reifyL_nil, reifyL_cons, reify_v]; (exact hQ))
  ·exact gO
  ·simp [-List.map_take, -List.map_drop, -List.map_append, -List.map_replicate, -List.reduceReplicate, noPtrL, noPtr, noPtrL_bsl, noPtrL_map, sub]
  ·simp (disch := first | omega | decide) only [go_sem, f0]
   exact hK _
 iterate 5 (apply aops_step (by decide) rfl; · (intro K hK; simp (disch := first | omega | decide) only [go_sem, f0]; exact hK _))
 refine aops_nil ?_
 refine AW.sr (cfg := cfg) ?_
 iterate 1 (apply aops_step (by decide) rfl; · (intro K hK; simp (disch := first | omega | decide) only [go_sem, f0]; exact hK _))
 apply aops_step (by decide) rfl
 ·intro K hK
  simp (disch := first | omega | decide) only [go_sem, f0, act_call, List.map]
  apply mwp_call_g rfl rfl rfl
  ·intro Q hQ
   (simp (disch := first | omega | decide) only [go_sem, f0, peekL, reifyL_nil, reifyL_cons, reify_v]; (exact hQ))
  ·exact hG
  ·exact O.good_Read nv i (by omega) hzn
  ·simp (disch := first | omega | decide) only [go_sem, f0]
   exact hK _
 iterate 1 (apply aops_step (by decide) rfl; · (intro K hK; simp (disch := first | omega | decide) only [go_sem, f0]; exact hK _))
 refine aops_nil ?_
 refine AW.sr (cfg := cfg) ?_
 iterate 1 (apply aops_step (by decide) rfl; · (intro K hK; simp (disch := first | omega | decide) only [go_sem, f0]; exact hK _))
 apply aops_step (by decide) rfl
 ·intro K hK
  simp (disch := first | omega | decide) only [go_sem, f0, act_call, List.map]
  apply mwp_call_g rfl rfl rfl
  ·intro Q hQ
   (simp (disch := first | omega | decide) only [go_sem, f0, peekL, reifyL_nil, reifyL_cons, reify_v]; (exact hQ))
  ·rfl
  ·exact good_r0 nv hzn hin
  ·simp (disch := first | omega | decide) only [go_sem, f0]
   exact hK _
 iterate 2 (apply aops_step (by decide) rfl; · (intro K hK; simp (disch := first | omega | decide) only [go_sem, f0, act_convI u71 u3]; exact hK _))
 apply aops_step (by decide) rfl
 ·intro K hK
  simp (disch := first | omega | decide) only [go_sem, f0, act_call, List.map]
  apply mwp_call_g rfl rfl rfl
  ·intro Q hQ
   (simp (disch := first | omega | decide) only [go_sem, f0, peekL, reifyL_nil, reifyL_cons, reify_v]; (exact hQ))
  ·rfl
  ·exact good_r1 nv hzn hin
  ·simp (disch := first | omega | decide) only [go_sem, f0]
   exact hK _
 iterate 2 (apply aops_step (by decide) rfl; · (intro K hK; simp (disch := first | omega | decide) only [go_sem, f0, act_convI u71 u3]; exact hK _))
 apply aops_step (by decide) rfl
 ·intro K hK
  simp (disch := first | omega | decide) only [go_sem, f0, act_call, List.map]
  apply mwp_call_g rfl rfl rfl
  ·intro Q hQ
   (simp (disch := first | omega | decide) only [go_sem, f0, peekL, reifyL_nil, reifyL_cons, reify_v]; (exact hQ))
  ·rfl
  ·exact good_r2 nv hzn hin
  ·simp (disch := first | omega | decide) only [go_sem, f0]
   exact hK _
 iterate 2 (apply aops_step (by decide) rfl; · (intro K hK; simp (disch := first | omega | decide) only [go_sem, f0, act_convI u71 u3]; exact hK _))
 apply aops_step (by decide) rfl
 ·intro K hK
  simp (disch := first | omega | decide) only [go_sem, f0, act_call, List.map]
  apply mwp_call_g rfl rfl rfl
  ·intro Q hQ
   (simp (disch := first | omega | decide) only [go_sem, f0, peekL, reifyL_nil, reifyL_cons, reify_v]; (exact hQ))
  ·rfl
  ·exact good_r3 nv hzn hin
  ·simp (disch := first | omega | decide) only [go_sem, f0]
   exact hK _
 iterate 2 (apply aops_step (by decide) rfl; · (intro K hK; simp (disch := first | omega | decide) only [go_sem, f0, act_convI u71 u3]; exact hK _))
 apply aops_step (by decide) rfl
 ·intro K hK
  simp (disch := first | omega | decide) only [go_sem, f0, act_call, List.map]
  apply mwp_call_g rfl rfl rfl
  ·intro Q hQ
   (simp (disch := first | omega | decide) only [go_sem, f0, peekL, reifyL_nil, reifyL_cons, reify_v]; (exact hQ))
  ·rfl
  ·exact good_r4 nv hzn hin
  ·simp (disch := first | omega | decide) only [go_sem, f0]
   exact hK _
 iterate 1 (apply aops_step (by decide) rfl; · (intro K hK; simp (disch := first | omega | decide) only [go_sem, f0, act_convI u71 u3]; exact hK _))
 apply aops_step (by decide) rfl
 ·intro K hK
  simp (disch := first | omega | decide) only [go_sem, f0, act_build_t ti28 pl28, List.map]
  simp [-List.map_take, -List.map_drop, fillL, okOne, cellishAV, Value.oneCell', cellsL, cellsOf, setAt, M.bind, Mwp, mset_same, Obj.isArr]
  exact hK _
 apply aops_step (by decide) rfl
 ·intro K hK
  simp (disch := first | omega | decide) only [go_sem, f0, act_alloc_t ti28, List.map]
  exact hK _
 apply aops_step0 rfl
 ·intro K hK
  simp (disch := first | omega | decide) only [go_sem, f0, act_store_t ti28, List.map]
  rw [mwp_store_c (by simp (disch := first | omega | decide) only [go_sem, f0]; rfl) (by rfl) (by rfl) (by rfl) (by simp)]
  (simp [-List.map_take, -List.map_drop, aStore, cellsL, settleL, settle, M.bind, Mwp, freezeN, cellishAV, Value.oneCell', setAt, sub, mset_same, mset_ne, List.take_of_length_le, f0])
  try simp only [setAt, cellsL, cellsOf_agg, cellsOf_base, List.map_cons, List.map_nil, List.set_cons_zero, List.set_cons_succ, Nat.reduceAdd, Nat.zero_add, hG]
  exact hK _
 refine aops_nil ?_
 refine AW.join (fun σ => ∃ s m, σ = ⟨117, s, m⟩ ∧ s 2 = .lptr (.tmp 2 0) (m.objs (.tmp 2 0)).1 0 ∧ (m.objs (.tmp 2 0)).2 = .box [.v (i64 0), .v (i64 0), .v (i64 0), .v (i64 0), .v (i64 0), .v (i64 0), .v (i64 0), .v (.sl 2 true []), .v (.sl 2 true []), .v (.sl 3 true [])] ∧ s 5 = .v (.b (okO l)) ∧ s 6 = .v (.gp 0 0) ∧ s 7 = .lptr (.tmp 7 0) (m.objs (.tmp 7 0)).1 0 ∧ (m.objs (.tmp 7 0)).2 = .box [.v (i64 (kOf i)), .v (i64 (rv (q1 i) 1)), .v (i64 (rv (q2 i) 4)), .v (i64 (rv (q3 i) 1)), .v (i64 (rv (q4 i) 4)), .v (i64 (epOf i)), .v (i64 0), .v (.sl 2 true []), .v (.sl 2 true []), .v (.sl 3 true [])] ∧ (∀ i, (m.objs (.res i)).2 = .dead) ∧ m.G = [[.sl 1 nv (bsl (q6 i).1), .b (q6 i).2]]) ?_ ?_
 ·skip
  refine AW.sr (cfg := cfg) ?_
  refine aops_fl (by decide) (by decide) fo28_0 ti3 (by simp only [go_sem, f0]; rfl) (by simp only [go_sem, f0]; rfl) (by rfl) ?_
  iterate 2 (apply aops_step (by decide) rfl; · (intro K hK; simp (disch := first | omega | decide) only [go_sem, f0]; exact hK _))
  refine aops_flm (dg := 37) (by decide) (by decide) (by decide) fo28_0 ti3 rfl (by simp only [go_sem, f0]; rfl) (by simp only [go_sem, f0]; rfl) (by simp only [go_sem, f0]; rfl) (by rfl) ?_
  apply aops_merge' (by decide) (by exact want_of (d := 37) rfl (by simp (disch := first | omega | decide) only [go_sem, f0, opn_cond]; rfl))
  ·intro hc K hK
   simp (disch := first | omega | decide) only [go_sem, f0, opn_cond, hc, if_true]
   exact hK _
  iterate 1 (apply aops_step (by decide) rfl; · (intro K hK; simp (disch := first | omega | decide) only [go_sem, f0]; exact hK _))
  refine aops_nil ?_
  apply AW.cond
  ·(simp only [go_sem, f0]; rfl)
  case ht =>
   intro hb
   try simp only [bo1, bo2, bo3, bo4, bo5, bo6] at hb
   have hbt41 := hb
   refine AW.region (cfg := cfg) ?_
   iterate 1 (apply aops_step (by decide) rfl; · (intro K hK; simp (disch := first | omega | decide) only [go_sem, f0]; exact hK _))
   apply aops_step (by decide) rfl
   ·intro K hK
    simp (disch := first | omega | decide) only [go_sem, f0, act_call, List.map]
    apply mwp_call_g rfl rfl rfl
    ·intro Q hQ
     (simp (disch := first | omega | decide) only [go_sem, f0, peekL, reifyL_nil, reifyL_cons, reify_v]; (exact hQ))
    ·rfl
    ·exact good_rdE nv hzn hin hbt41
    ·simp (disch := first | omega | decide) only [go_sem, f0]
     exact hK _
   iterate 1 (apply aops_step (by decide) rfl; · (intro K hK; simp (disch := first | omega | decide) only [go_sem, f0, act_convI u71 u3]; exact hK _))
   apply aops_step (by decide) rfl
   ·intro K hK
    simp (disch := first | omega | decide) only [go_sem, f0, act_fieldAddr_t fo28_5, List.map]
    rw [mwp_fieldAddr_b (by simp only [go_sem, f0]; rfl)]
    exact hK _
   apply aops_step0 rfl
   ·intro K hK
    simp (disch := first | omega | decide) only [go_sem, f0, act_store_t ti3, List.map]
    rw [mwp_store_c (by simp (disch := first | omega | decide) only [go_sem, f0]; rfl) (by rfl) (by rfl) (by rfl) (by simp)]
    (simp [-List.map_take, -List.map_drop, aStore, cellsL, settleL, settle, M.bind, Mwp, freezeN, cellishAV, Value.oneCell', setAt, sub, mset_same, mset_ne, List.take_of_length_le, f0])
    try simp only [setAt, cellsL, cellsOf_agg, cellsOf_base, List.map_cons, List.map_nil, List.set_cons_zero, List.set_cons_succ, Nat.reduceAdd, Nat.zero_add, hG]
    exact hK _
   refine aops_nil ?_
   refine ⟨_, _, rfl, ?_, ?_, ?_, ?_, ?_, ?_, (by intro i; simp [Mem.set, hr]), (by rfl)⟩ <;> try simp (disch := first | omega | decide) only [go_sem, f0]
   all_goals first | rfl | (rw [epOf, if_neg (by omega)]; done) | trace_state
  case hf =>
   intro hb
   try simp only [bo1, bo2, bo3, bo4, bo5, bo6] at hb
   have hbt41 := hb
   refine AW.skip ?_
   refine ⟨_, _, rfl, ?_, ?_, ?_, ?_, ?_, ?_, (by intro i; simp [Mem.set, hr]), (by (simp only [mset_G, hG]; rw [q6_no hbt41]))⟩ <;> try simp (disch := first | omega | decide) only [go_sem, f0]
   all_goals (rw [epOf, if_neg (by omega)]; done)
 ·clear f0 hr hG
  rintro σ ⟨s, m, rfl, f2, o2, f5, f6, f7, o7, hr, hG⟩
  obtain ⟨g2, o2⟩ : ∃ g, m.objs (.tmp 2 0) = (g, .box [.v (i64 0), .v (i64 0), .v (i64 0), .v (i64 0), .v (i64 0), .v (i64 0), .v (i64 0), .v (.sl 2 true []), .v (.sl 2 true []), .v (.sl 3 true [])]) := ⟨_, Prod.ext rfl o2⟩
  rw [o2] at f2
  obtain ⟨g7, o7⟩ : ∃ g, m.objs (.tmp 7 0) = (g, .box [.v (i64 (kOf i)), .v (i64 (rv (q1 i) 1)), .v (i64 (rv (q2 i) 4)), .v (i64 (rv (q3 i) 1)), .v (i64 (rv (q4 i) 4)), .v (i64 (epOf i)), .v (i64 0), .v (.sl 2 true []), .v (.sl 2 true []), .v (.sl 3 true [])]) := ⟨_, Prod.ext rfl o7⟩
  rw [o7] at f7
  refine AW.sr (cfg := cfg) ?_
  iterate 1 (apply aops_step (by decide) rfl; · (intro K hK; simp (disch := first | omega | decide) only [go_sem, f2, f5, f6, f7, o2, o7]; exact hK _))
  refine aops_nil ?_
  refine AW.join (fun σ => ∃ s m, σ = ⟨117, s, m⟩ ∧ s 2 = .lptr (.tmp 2 0) (m.objs (.tmp 2 0)).1 0 ∧ (m.objs (.tmp 2 0)).2 = .box [.v (i64 0), .v (i64 0), .v (i64 0), .v (i64 0), .v (i64 0), .v (i64 0), .v (i64 0), .v (.sl 2 true []), .v (.sl 2 true []), .v (.sl 3 true [])] ∧ s 5 = .v (.b (okO l)) ∧ s 6 = .v (.gp 0 0) ∧ s 7 = .lptr (.tmp 7 0) (m.objs (.tmp 7 0)).1 0 ∧ (m.objs (.tmp 7 0)).2 = .box [.v (i64 (kOf i)), .v (i64 (rv (q1 i) 1)), .v (i64 (rv (q2 i) 4)), .v (i64 (rv (q3 i) 1)), .v (i64 (rv (q4 i) 4)), .v (i64 (epOf i)), .v (i64 (teOf i)), .v (.sl 2 true []), .v (.sl 2 true []), .v (.sl 3 true [])] ∧ s 8 = .v (.i .u64 (nOf i)) ∧ (∀ i, (m.objs (.res i)).2 = .dead) ∧ m.G = [[.sl 1 nv (bsl (q7 i).1), .b (q7 i).2]]) ?_ ?_
  ·skip
   refine AW.sr (cfg := cfg) ?_
   refine aops_fl (by decide) (by decide) fo28_0 ti3 (by simp (disch := first | omega | decide) only [go_sem, f2, f5, f6, f7, o2, o7]; rfl) (by simp (disch := first | omega | decide) only [go_sem, f2, f5, f6, f7, o2, o7]; rfl) (by rfl) ?_
   iterate 1 (apply aops_step (by decide) rfl; · (intro K hK; simp (disch := first | omega | decide) only [go_sem, f2, f5, f6, f7, o2, o7]; exact hK _))
   refine aops_nil ?_
   apply AW.cond
   ·(simp only [go_sem, f2, f5, f6, f7, o2, o7]; rfl)
   case ht =>
    intro hb
    try simp only [bo1, bo2, bo3, bo4, bo5, bo6] at hb
    have hbt48 := hb
    refine AW.region (cfg := cfg) ?_
    iterate 1 (apply aops_step (by decide) rfl; · (intro K hK; simp (disch := first | omega | decide) only [go_sem, f2, f5, f6, f7, o2, o7]; exact hK _))
    apply aops_step (by decide) rfl
    ·intro K hK
     simp (disch := first | omega | decide) only [go_sem, f2, f5, f6, f7, o2, o7, act_call, List.map]
     apply mwp_call_g rfl rfl rfl
     ·intro Q hQ
      (simp (disch := first | omega | decide) only [go_sem, f2, f5, f6, f7, o2, o7, peekL, reifyL_nil, reifyL_cons, reify_v]; (exact hQ))
     ·exact hG
     ·exact good_rdT nv hzn hin hbt48
     ·simp (disch := first | omega | decide) only [go_sem, f2, f5, f6, f7, o2, o7]
      exact hK _
    iterate 1 (apply aops_step (by decide) rfl; · (intro K hK; simp (disch := first | omega | decide) only [go_sem, f2, f5, f6, f7, o2, o7, act_convI u71 u3]; exact hK _))
    apply aops_step (by decide) rfl
    ·intro K hK
     simp (disch := first | omega | decide) only [go_sem, f2, f5, f6, f7, o2, o7, act_fieldAddr_t fo28_6, List.map]
     rw [mwp_fieldAddr_b (by simp only [go_sem, f2, f5, f6, f7, o2, o7]; rfl)]
     exact hK _
    apply aops_step0 rfl
    ·intro K hK
     simp (disch := first | omega | decide) only [go_sem, f2, f5, f6, f7, o2, o7, act_store_t ti3, List.map]
     rw [mwp_store_c (by simp (disch := first | omega | decide) only [go_sem, f2, f5, f6, f7, o2, o7]; rfl) (by rfl) (by rfl) (by rfl) (by simp)]
     (simp [-List.map_take, -List.map_drop, aStore, cellsL, settleL, settle, M.bind, Mwp, freezeN, cellishAV, Value.oneCell', setAt, sub, mset_same, mset_ne, List.take_of_length_le, f2, f5, f6, f7, o2, o7])
     try simp only [setAt, cellsL, cellsOf_agg, cellsOf_base, List.map_cons, List.map_nil, List.set_cons_zero, List.set_cons_succ, Nat.reduceAdd, Nat.zero_add, hG]
     exact hK _
    refine aops_nil ?_
    refine ⟨_, _, rfl, ?_, ?_, ?_, ?_, ?_, ?_, ?_, (by intro i; simp [Mem.set, hr]), (by rfl)⟩ <;> try simp (disch := first | omega | decide) only [go_sem, f2, f5, f6, f7, o2, o7]
    all_goals (rw [nOf, if_pos hbt48]; done)
   case hf =>
    intro hb
    try simp only [bo1, bo2, bo3, bo4, bo5, bo6] at hb
    have hbt48 := hb
    refine AW.region (cfg := cfg) ?_
    iterate 1 (apply aops_step (by decide) rfl; · (intro K hK; simp (disch := first | omega | decide) only [go_sem, f2, f5, f6, f7, o2, o7]; exact hK _))
    apply aops_step (by decide) rfl
    ·intro K hK
     simp (disch := first | omega | decide) only [go_sem, f2, f5, f6, f7, o2, o7, act_call, List.map]
     apply mwp_call_g rfl rfl rfl
     ·intro Q hQ
      (simp (disch := first | omega | decide) only [go_sem, f2, f5, f6, f7, o2, o7, peekL, reifyL_nil, reifyL_cons, reify_v]; (exact hQ))
     ·exact hG
     ·exact good_rdN nv hzn hin hbt48
     ·simp (disch := first | omega | decide) only [go_sem, f2, f5, f6, f7, o2, o7]
      exact hK _
    iterate 1 (apply aops_step (by decide) rfl; · (intro K hK; simp (disch := first | omega | decide) only [go_sem, f2, f5, f6, f7, o2, o7]; exact hK _))
    refine aops_nil ?_
    refine ⟨_, _, rfl, ?_, ?_, ?_, ?_, ?_, ?_, ?_, (by intro i; simp [Mem.set, hr]), (by rfl)⟩ <;> try simp (disch := first | omega | decide) only [go_sem, f2, f5, f6, f7, o2, o7]
    all_goals (rw [teOf, if_neg hbt48]; done)
  ·clear f2 f5 f6 f7 o2 o7 hr hG
   rintro σ ⟨s, m, rfl, f2, o2, f5, f6, f7, o7, f8, hr, hG⟩
   obtain ⟨g2, o2⟩ : ∃ g, m.objs (.tmp 2 0) = (g, .box [.v (i64 0), .v (i64 0), .v (i64 0), .v (i64 0), .v (i64 0), .v (i64 0), .v (i64 0), .v (.sl 2 true []), .v (.sl 2 true []), .v (.sl 3 true [])]) := ⟨_, Prod.ext rfl o2⟩
   rw [o2] at f2
   obtain ⟨g7, o7⟩ : ∃ g, m.objs (.tmp 7 0) = (g, .box [.v (i64 (kOf i)), .v (i64 (rv (q1 i) 1)), .v (i64 (rv (q2 i) 4)), .v (i64 (rv (q3 i) 1)), .v (i64 (rv (q4 i) 4)), .v (i64 (epOf i)), .v (i64 (teOf i)), .v (.sl 2 true []), .v (.sl 2 true []), .v (.sl 3 true [])]) := ⟨_, Prod.ext rfl o7⟩
   rw [o7] at f7
   refine AW.seq ?_
   refine AW.seq ?_
   refine AW.cellNil 7 7 2 (by simp (disch := first | omega | decide) only [go_sem, f2, f5, f6, f7, f8, o2, o7]; rfl) (by rfl) ?_
   refine AW.cellNil 7 8 2 (by simp (disch := first | omega | decide) only [go_sem, f2, f5, f6, f7, f8, o2, o7]; rfl) (by rfl) ?_
   refine AW.cellNil 7 9 3 (by simp (disch := first | omega | decide) only [go_sem, f2, f5, f6, f7, f8, o2, o7]; rfl) (by rfl) ?_
   refine AW.region (cfg := cfg) ?_
   iterate 2 (apply aops_step (by decide) rfl; · (intro K hK; simp (disch := first | omega | decide) only [go_sem, f2, f5, f6, f7, f8, o2, o7]; exact hK _))
   refine aops_nil ?_
   refine AW.block ?_
   refine AW.forN (fun k σ => ∃ s m, σ = ⟨117, s, m⟩ ∧ s 2 = .lptr (.tmp 2 0) (m.objs (.tmp 2 0)).1 0 ∧ (m.objs (.tmp 2 0)).2 = .box [.v (i64 0), .v (i64 0), .v (i64 0), .v (i64 0), .v (i64 0), .v (i64 0), .v (i64 0), .v (.sl 2 true []), .v (.sl 2 true []), .v (.sl 3 true [])] ∧ s 5 = .v (.b (okO l)) ∧ s 6 = .v (.gp 0 0) ∧ s 7 = .lptr (.tmp 7 0) (m.objs (.tmp 7 0)).1 0 ∧ (m.objs (.tmp 7 0)).2 = .box [.v (i64 (kOf i)), .v (i64 (rv (q1 i) 1)), .v (i64 (rv (q2 i) 4)), .v (i64 (rv (q3 i) 1)), .v (i64 (rv (q4 i) 4)), .v (i64 (epOf i)), .v (i64 (teOf i)), .own (.cell 7 7) (m.objs (.cell 7 7)).1 0 (loopP (kOf i) (q7 i) k).hs.length, .own (.cell 7 8) (m.objs (.cell 7 8)).1 0 (loopP (kOf i) (q7 i) k).xs.length, .own (.cell 7 9) (m.objs (.cell 7 9)).1 0 (loopP (kOf i) (q7 i) k).ls.length] ∧ (m.objs (.cell 7 7)).2 = .arr (loopP (kOf i) (q7 i) k).hs.isEmpty 2 ((loopP (kOf i) (q7 i) k).hs.map linkA) ∧ (m.objs (.cell 7 8)).2 = .arr (loopP (kOf i) (q7 i) k).xs.isEmpty 2 ((loopP (kOf i) (q7 i) k).xs.map linkA) ∧ (m.objs (.cell 7 9)).2 = .arr (loopP (kOf i) (q7 i) k).ls.isEmpty 3 ((loopP (kOf i) (q7 i) k).ls.map lsaA) ∧ s 55 = .v (.i .u64 (nOf i)) ∧ s 56 = .v (.i .u64 (k : Int)) ∧ (∀ i, (m.objs (.res i)).2 = .dead) ∧ m.G = [[.sl 1 nv (bsl (loopP (kOf i) (q7 i) k).p.1), .b (loopP (kOf i) (q7 i) k).p.2]]) ((nOf i).toNat) ?_ ?_ ?_
   ·refine ⟨_, _, rfl, ?_, ?_, ?_, ?_, ?_, ?_, ?_, ?_, ?_, ?_, ?_, (by intro i; simp [Mem.set, hr]), (by exact hG)⟩ <;> try simp (disch := first | omega | decide) only [go_sem, f2, f5, f6, f7, f8, o2, o7]
    all_goals rfl
   ·clear f2 f5 f6 f7 f8 o2 o7 hr hG
    rintro k σ hk ⟨s, m, rfl, f2, o2, f5, f6, f7, o7, o7c7, o7c8, o7c9, f55, f56, hr, hG⟩
    obtain ⟨g2, o2⟩ : ∃ g, m.objs (.tmp 2 0) = (g, .box [.v (i64 0), .v (i64 0), .v (i64 0), .v (i64 0), .v (i64 0), .v (i64 0), .v (i64 0), .v (.sl 2 true []), .v (.sl 2 true []), .v (.sl 3 true [])]) := ⟨_, Prod.ext rfl o2⟩
    rw [o2] at f2
    obtain ⟨g7c7, o7c7⟩ : ∃ g, m.objs (.cell 7 7) = (g, .arr (loopP (kOf i) (q7 i) k).hs.isEmpty 2 ((loopP (kOf i) (q7 i) k).hs.map linkA)) := ⟨_, Prod.ext rfl o7c7⟩
    rw [o7c7] at o7
    obtain ⟨g7c8, o7c8⟩ : ∃ g, m.objs (.cell 7 8) = (g, .arr (loopP (kOf i) (q7 i) k).xs.isEmpty 2 ((loopP (kOf i) (q7 i) k).xs.map linkA)) := ⟨_, Prod.ext rfl o7c8⟩
    rw [o7c8] at o7
    obtain ⟨g7c9, o7c9⟩ : ∃ g, m.objs (.cell 7 9) = (g, .arr (loopP (kOf i) (q7 i) k).ls.isEmpty 3 ((loopP (kOf i) (q7 i) k).ls.map lsaA)) := ⟨_, Prod.ext rfl o7c9⟩
    rw [o7c9] at o7
    simp only at o7
    obtain ⟨g7, o7⟩ : ∃ g, m.objs (.tmp 7 0) = (g, .box [.v (i64 (kOf i)), .v (i64 (rv (q1 i) 1)), .v (i64 (rv (q2 i) 4)), .v (i64 (rv (q3 i) 1)), .v (i64 (rv (q4 i) 4)), .v (i64 (epOf i)), .v (i64 (teOf i)), .own (.cell 7 7) g7c7 0 (loopP (kOf i) (q7 i) k).hs.length, .own (.cell 7 8) g7c8 0 (loopP (kOf i) (q7 i) k).xs.length, .own (.cell 7 9) g7c9 0 (loopP (kOf i) (q7 i) k).ls.length]) := ⟨_, Prod.ext rfl o7⟩
    rw [o7] at f7
    refine AW.sr (cfg := cfg) ?_
    iterate 1 (apply aops_step (by decide) rfl; · (intro K hK; simp (disch := first | omega | decide) only [go_sem, f2, f5, f6, f7, f55, f56, o2, o7, o7c7, o7c8, o7c9]; exact hK _))
    refine aops_nil ?_
    refine AW.seq ?_
    apply AW.cond
    ·(simp only [go_sem, f2, f5, f6, f7, f55, f56, o2, o7, o7c7, o7c8, o7c9]; rfl)
    case hf => intro hb; (simp at hb; omega)
    case ht =>
    intro hb
    have hbt57 := hb
    refine AW.skip ?_
    refine AW.seq ?_
    refine AW.block ?_
    refine AW.sr (cfg := cfg) ?_
    refine aops_fl (by decide) (by decide) fo28_0 ti3 (by simp (disch := first | omega | decide) only [go_sem, f2, f5, f6, f7, f55, f56, o2, o7, o7c7, o7c8, o7c9]; rfl) (by simp (disch := first | omega | decide) only [go_sem, f2, f5, f6, f7, f55, f56, o2, o7, o7c7, o7c8, o7c9]; rfl) (by rfl) ?_
    refine aops_nil ?_
    refine AW.block ?_
    refine AW.sr (cfg := cfg) ?_
    iterate 2 (apply aops_step (by decide) rfl; · (intro K hK; simp (disch := first | omega | decide) only [go_sem, f2, f5, f6, f7, f55, f56, o2, o7, o7c7, o7c8, o7c9]; exact hK _))
    refine aops_nil ?_
    apply AW.cond
    ·(simp only [go_sem, f2, f5, f6, f7, f55, f56, o2, o7, o7c7, o7c8, o7c9]; rfl)
    case ht =>
     intro hb
     try simp only [bo1, bo2, bo3, bo4, bo5, bo6] at hb
     have hbt60 := hb
     have c1 := rv1_bd (loopP (kOf i) (q7 i) k).p
     have c2 := rv4_bd (rs (loopP (kOf i) (q7 i) k).p 1)
     have wb := loop_bd (kind := kOf i) (p := q7 i) k
     refine AW.draw (cfg := cfg) (by kernel_rfl) (by kernel_rfl) (by kernel_rfl) ?_
     apply adraw_step rfl
     ·intro K hK
      simp (disch := first | omega | decide) only [go_sem, f2, f5, f6, f7, f55, f56, o2, o7, o7c7, o7c8, o7c9, act_fieldAddr_t fo28_7, List.map]
      rw [mwp_fieldAddr_b (by simp only [go_sem, f2, f5, f6, f7, f55, f56, o2, o7, o7c7, o7c8, o7c9]; rfl)]
      exact hK
     apply adraw_step rfl
     ·intro K hK
      simp (disch := first | omega | decide) only [go_sem, f2, f5, f6, f7, f55, f56, o2, o7, o7c7, o7c8, o7c9, act_load_t ti24, List.map]
      rw [mwp_load_b1 (by simp only [go_sem, f2, f5, f6, f7, f55, f56, o2, o7, o7c7, o7c8, o7c9]; rfl) (by rfl)]
      exact hK
     iterate 1 (apply adraw_step rfl; · (intro K hK; simp (disch := first | omega | decide) only [go_sem, f2, f5, f6, f7, f55, f56, o2, o7, o7c7, o7c8, o7c9]; exact hK))
     apply adraw_step rfl
     ·intro K hK
      simp (disch := first | omega | decide) only [go_sem, f2, f5, f6, f7, f55, f56, o2, o7, o7c7, o7c8, o7c9, act_call, List.map]
      apply mwp_call_g rfl rfl rfl
      ·intro Q hQ
       (simp (disch := first | omega | decide) only [go_sem, f2, f5, f6, f7, f55, f56, o2, o7, o7c7, o7c8, o7c9, peekL, reifyL_nil, reifyL_cons, reify_v]; (exact hQ))
      ·exact hG
      ·exact good_rd nv (loopP (kOf i) (q7 i) k).p (wl k) hin 1
      ·simp (disch := first | omega | decide) only [go_sem, f2, f5, f6, f7, f55, f56, o2, o7, o7c7, o7c8, o7c9]
       exact hK
     iterate 2 (apply adraw_step rfl; · (intro K hK; simp (disch := first | omega | decide) only [go_sem, f2, f5, f6, f7, f55, f56, o2, o7, o7c7, o7c8, o7c9, act_convI u71 u3]; exact hK))
     apply adraw_step rfl
     ·intro K hK
      simp (disch := first | omega | decide) only [go_sem, f2, f5, f6, f7, f55, f56, o2, o7, o7c7, o7c8, o7c9, act_call, List.map]
      apply mwp_call_g rfl rfl rfl
      ·intro Q hQ
       (simp (disch := first | omega | decide) only [go_sem, f2, f5, f6, f7, f55, f56, o2, o7, o7c7, o7c8, o7c9, peekL, reifyL_nil, reifyL_cons, reify_v]; (exact hQ))
      ·rfl
      ·exact good_rd nv (rs (loopP (kOf i) (q7 i) k).p 1) (okR_rs (wl k) _) hin 4
      ·simp (disch := first | omega | decide) only [go_sem, f2, f5, f6, f7, f55, f56, o2, o7, o7c7, o7c8, o7c9]
       exact hK
     iterate 1 (apply adraw_step rfl; · (intro K hK; simp (disch := first | omega | decide) only [go_sem, f2, f5, f6, f7, f55, f56, o2, o7, o7c7, o7c8, o7c9, act_convI u71 u3]; exact hK))
     apply adraw_step rfl
     ·intro K hK
      simp (disch := first | omega | decide) only [go_sem, f2, f5, f6, f7, f55, f56, o2, o7, o7c7, o7c8, o7c9, act_build_t ti74 pl74, List.map]
      simp [-List.map_take, -List.map_drop, fillL, okOne, cellishAV, Value.oneCell', cellsL, cellsOf, setAt, M.bind, Mwp, mset_same, Obj.isArr, o2, o7, o7c7, o7c8, o7c9]
      exact hK
     apply adraw_step rfl
     ·intro K hK
      rw [act_bs el24 ti74]
      (simp [-List.map_take, -List.map_drop, -BitVec.toNat_ofInt, -BitVec.ofInt_natCast, -BitVec.toNat_setWidth, -BitVec.toNat_ushiftRight, -BitVec.toNat_umod, -BitVec.toNat_udiv, go_sem, elems_v, cellishAV, Value.oneCell', isAggAV, partsOf, TI.z, TI.mk1, f2, f5, f6, f7, f55, f56, o2, o7, o7c7, o7c8, o7c9]; exact hK)
     apply adraw_step rfl
     ·intro K hK
      simp (disch := first | omega | decide) only [go_sem, f2, f5, f6, f7, f55, f56, o2, o7, o7c7, o7c8, o7c9, List.map]
      apply mwp_append2 el24 ti74 u24
      case hpk => intro Q hQ; (rw [peek_own (by simp (disch := first | omega | decide) only [go_sem, f2, f5, f6, f7, f55, f56, o2, o7, o7c7, o7c8, o7c9]; rfl)]; (try rw [sub_full (by rfl)]); exact hQ)
      case hs' => rfl
      case ho => simp (disch := first | omega | decide) only [go_sem, f2, f5, f6, f7, f55, f56, o2, o7, o7c7, o7c8, o7c9]; rfl
      case hsz => rfl
      case hhi => (simp; done)
      case hb => (simp [sub, roomB]; omega)
      case hy => exact all_cells rfl
      case k => (try simp only [List.nil_append, ← List.map_append, Bool.false_and]); exact hK
     apply adraw_step rfl
     ·intro K hK
      simp (disch := first | omega | decide) only [go_sem, f2, f5, f6, f7, f55, f56, o2, o7, o7c7, o7c8, o7c9, act_fieldAddr_t fo28_7, List.map]
      rw [mwp_fieldAddr_b (by simp (disch := first | omega | decide) only [go_sem, f2, f5, f6, f7, f55, f56, o2, o7, o7c7, o7c8, o7c9]; rfl)]
      exact hK
     apply adraw_step0 rfl
     ·intro K hK
      simp (disch := first | omega | decide) only [go_sem, f2, f5, f6, f7, f55, f56, o2, o7, o7c7, o7c8, o7c9, act_store_t ti24, List.map]
      rw [mwp_store_o (by simp (disch := first | omega | decide) only [go_sem, f2, f5, f6, f7, f55, f56, o2, o7, o7c7, o7c8, o7c9]; rfl) (by simp (disch := first | omega | decide) only [go_sem, f2, f5, f6, f7, f55, f56, o2, o7, o7c7, o7c8, o7c9]; rfl) (by decide) (by simp)]
      (simp [-List.map_take, -List.map_drop, aStore, cellsL, settleL, settle, M.bind, Mwp, freezeN, cellishAV, Value.oneCell', setAt, sub, mset_same, mset_ne, List.take_of_length_le, f2, f5, f6, f7, f55, f56, o2, o7, o7c7, o7c8, o7c9])
      try simp only [setAt, cellsL, cellsOf_agg, cellsOf_base, List.map_cons, List.map_nil, List.set_cons_zero, List.set_cons_succ, Nat.reduceAdd, Nat.zero_add, hG]
      exact hK
     refine adraw_nil (by kernel_rfl) ?_
     refine AW.region (cfg := cfg) ?_
     iterate 2 (apply aops_step (by decide) rfl; · (intro K hK; simp (disch := first | omega | decide) only [go_sem, f2, f5, f6, f7, f55, f56, o2, o7, o7c7, o7c8, o7c9]; exact hK _))
     refine aops_nil ?_
     refine ⟨_, _, rfl, ?_, ?_, ?_, ?_, ?_, ?_, ?_, ?_, ?_, ?_, ?_, (by intro i; simp [Mem.set, hr]), (by (simp only [mset_G, hG, loop_s1 hbt60]; done))⟩ <;> try simp (disch := first | omega | decide) only [go_sem, f2, f5, f6, f7, f55, f56, o2, o7, o7c7, o7c8, o7c9]
     all_goals first | rfl | (simp only [loop_s1 hbt60]; done) | (simp only [loop_s1 hbt60]; simp [hearP, linkA]; done)
    case hf =>
     intro hb
     try simp only [bo1, bo2, bo3, bo4, bo5, bo6] at hb
     have hbt60 := hb
     refine AW.seq ?_
     refine AW.sr (cfg := cfg) ?_
     iterate 2 (apply aops_step (by decide) rfl; · (intro K hK; simp (disch := first | omega | decide) only [go_sem, f2, f5, f6, f7, f55, f56, o2, o7, o7c7, o7c8, o7c9]; exact hK _))
     refine aops_nil ?_
     apply AW.cond
     ·(simp only [go_sem, f2, f5, f6, f7, f55, f56, o2, o7, o7c7, o7c8, o7c9]; rfl)
     case ht =>
      intro hb
      try simp only [bo1, bo2, bo3, bo4, bo5, bo6] at hb
      have hbt74 := hb
      refine AW.skip ?_
      apply AW.cond
      ·(simp only [go_sem, f2, f5, f6, f7, f55, f56, o2, o7, o7c7, o7c8, o7c9]; rfl)
      case hf => intro hb; (simp at hb; omega)
      case ht =>
      intro hb
      have hbt74 := hb
      have c1 := rv1_bd (loopP (kOf i) (q7 i) k).p
      have wb := loop_bd (kind := kOf i) (p := q7 i) k
      refine AW.draw (cfg := cfg) (by kernel_rfl) (by kernel_rfl) (by kernel_rfl) ?_
      apply adraw_step rfl
      ·intro K hK
       simp (disch := first | omega | decide) only [go_sem, f2, f5, f6, f7, f55, f56, o2, o7, o7c7, o7c8, o7c9, act_fieldAddr_t fo28_8, List.map]
       rw [mwp_fieldAddr_b (by simp only [go_sem, f2, f5, f6, f7, f55, f56, o2, o7, o7c7, o7c8, o7c9]; rfl)]
       exact hK
      apply adraw_step rfl
      ·intro K hK
       simp (disch := first | omega | decide) only [go_sem, f2, f5, f6, f7, f55, f56, o2, o7, o7c7, o7c8, o7c9, act_load_t ti25, List.map]
       rw [mwp_load_b1 (by simp only [go_sem, f2, f5, f6, f7, f55, f56, o2, o7, o7c7, o7c8, o7c9]; rfl) (by rfl)]
       exact hK
      iterate 1 (apply adraw_step rfl; · (intro K hK; simp (disch := first | omega | decide) only [go_sem, f2, f5, f6, f7, f55, f56, o2, o7, o7c7, o7c8, o7c9]; exact hK))
      apply adraw_step rfl
      ·intro K hK
       simp (disch := first | omega | decide) only [go_sem, f2, f5, f6, f7, f55, f56, o2, o7, o7c7, o7c8, o7c9, act_call, List.map]
       apply mwp_call_g rfl rfl rfl
       ·intro Q hQ
        (simp (disch := first | omega | decide) only [go_sem, f2, f5, f6, f7, f55, f56, o2, o7, o7c7, o7c8, o7c9, peekL, reifyL_nil, reifyL_cons, reify_v]; (exact hQ))
       ·exact hG
       ·exact good_rd nv (loopP (kOf i) (q7 i) k).p (wl k) hin 1
       ·simp (disch := first | omega | decide) only [go_sem, f2, f5, f6, f7, f55, f56, o2, o7, o7c7, o7c8, o7c9]
        exact hK
      iterate 2 (apply adraw_step rfl; · (intro K hK; simp (disch := first | omega | decide) only [go_sem, f2, f5, f6, f7, f55, f56, o2, o7, o7c7, o7c8, o7c9, act_convI u71 u3]; exact hK))
      apply adraw_step rfl
      ·intro K hK
       simp (disch := first | omega | decide) only [go_sem, f2, f5, f6, f7, f55, f56, o2, o7, o7c7, o7c8, o7c9, act_call, List.map]
       apply mwp_call_g rfl rfl rfl
       ·intro Q hQ
        (simp (disch := first | omega | decide) only [go_sem, f2, f5, f6, f7, f55, f56, o2, o7, o7c7, o7c8, o7c9, peekL, reifyL_nil, reifyL_cons, reify_v]; (exact hQ))
       ·rfl
       ·exact good_rd nv (rs (loopP (kOf i) (q7 i) k).p 1) (okR_rs (wl k) _) hin 8
       ·simp (disch := first | omega | decide) only [go_sem, f2, f5, f6, f7, f55, f56, o2, o7, o7c7, o7c8, o7c9]
        exact hK
      iterate 1 (apply adraw_step rfl; · (intro K hK; simp (disch := first | omega | decide) only [go_sem, f2, f5, f6, f7, f55, f56, o2, o7, o7c7, o7c8, o7c9, act_convI u71 u3]; exact hK))
      apply adraw_step rfl
      ·intro K hK
       simp (disch := first | omega | decide) only [go_sem, f2, f5, f6, f7, f55, f56, o2, o7, o7c7, o7c8, o7c9, act_build_t ti76 pl76, List.map]
       simp [-List.map_take, -List.map_drop, fillL, okOne, cellishAV, Value.oneCell', cellsL, cellsOf, setAt, M.bind, Mwp, mset_same, Obj.isArr, o2, o7, o7c7, o7c8, o7c9]
       exact hK
      apply adraw_step rfl
      ·intro K hK
       rw [act_bs el25 ti76]
       (simp [-List.map_take, -List.map_drop, -BitVec.toNat_ofInt, -BitVec.ofInt_natCast, -BitVec.toNat_setWidth, -BitVec.toNat_ushiftRight, -BitVec.toNat_umod, -BitVec.toNat_udiv, go_sem, elems_v, cellishAV, Value.oneCell', isAggAV, partsOf, TI.z, TI.mk1, f2, f5, f6, f7, f55, f56, o2, o7, o7c7, o7c8, o7c9]; exact hK)
      apply adraw_step rfl
      ·intro K hK
       simp (disch := first | omega | decide) only [go_sem, f2, f5, f6, f7, f55, f56, o2, o7, o7c7, o7c8, o7c9, List.map]
       apply mwp_append2 el25 ti76 u25
       case hpk => intro Q hQ; (rw [peek_own (by simp (disch := first | omega | decide) only [go_sem, f2, f5, f6, f7, f55, f56, o2, o7, o7c7, o7c8, o7c9]; rfl)]; (try rw [sub_full (by rfl)]); exact hQ)
       case hs' => rfl
       case ho => simp (disch := first | omega | decide) only [go_sem, f2, f5, f6, f7, f55, f56, o2, o7, o7c7, o7c8, o7c9]; rfl
       case hsz => rfl
       case hhi => (simp; done)
       case hb => (simp [sub, roomB]; omega)
       case hy => exact all_cells rfl
       case k => (try simp only [List.nil_append, ← List.map_append, Bool.false_and]); exact hK
      apply adraw_step rfl
      ·intro K hK
       simp (disch := first | omega | decide) only [go_sem, f2, f5, f6, f7, f55, f56, o2, o7, o7c7, o7c8, o7c9, act_fieldAddr_t fo28_8, List.map]
       rw [mwp_fieldAddr_b (by simp (disch := first | omega | decide) only [go_sem, f2, f5, f6, f7, f55, f56, o2, o7, o7c7, o7c8, o7c9]; rfl)]
       exact hK
      apply adraw_step0 rfl
      ·intro K hK
       simp (disch := first | omega | decide) only [go_sem, f2, f5, f6, f7, f55, f56, o2, o7, o7c7, o7c8, o7c9, act_store_t ti25, List.map]
       rw [mwp_store_o (by simp (disch := first | omega | decide) only [go_sem, f2, f5, f6, f7, f55, f56, o2, o7, o7c7, o7c8, o7c9]; rfl) (by simp (disch := first | omega | decide) only [go_sem, f2, f5, f6, f7, f55, f56, o2, o7, o7c7, o7c8, o7c9]; rfl) (by decide) (by simp)]
       (simp [-List.map_take, -List.map_drop, aStore, cellsL, settleL, settle, M.bind, Mwp, freezeN, cellishAV, Value.oneCell', setAt, sub, mset_same, mset_ne, List.take_of_length_le, f2, f5, f6, f7, f55, f56, o2, o7, o7c7, o7c8, o7c9])
       try simp only [setAt, cellsL, cellsOf_agg, cellsOf_base, List.map_cons, List.map_nil, List.set_cons_zero, List.set_cons_succ, Nat.reduceAdd, Nat.zero_add, hG]
       exact hK
      refine adraw_nil (by kernel_rfl) ?_
      refine AW.region (cfg := cfg) ?_
      iterate 2 (apply aops_step (by decide) rfl; · (intro K hK; simp (disch := first | omega | decide) only [go_sem, f2, f5, f6, f7, f55, f56, o2, o7, o7c7, o7c8, o7c9]; exact hK _))
      refine aops_nil ?_
      refine ⟨_, _, rfl, ?_, ?_, ?_, ?_, ?_, ?_, ?_, ?_, ?_, ?_, ?_, (by intro i; simp [Mem.set, hr]), (by (simp only [mset_G, hG, loop_s2 (Or.inl (of_decide_eq_true hbt74))]; done))⟩ <;> try simp (disch := first | omega | decide) only [go_sem, f2, f5, f6, f7, f55, f56, o2, o7, o7c7, o7c8, o7c9]
      all_goals first | rfl | (simp only [loop_s2 (Or.inl (of_decide_eq_true hbt74))]; done) | (simp only [loop_s2 (Or.inl (of_decide_eq_true hbt74))]; simp [itemP, linkA]; done)
     case hf =>
      intro hb
      try simp only [bo1, bo2, bo3, bo4, bo5, bo6] at hb
      have hbt74 := hb
      refine AW.region (cfg := cfg) ?_
      iterate 2 (apply aops_step (by decide) rfl; · (intro K hK; simp (disch := first | omega | decide) only [go_sem, f2, f5, f6, f7, f55, f56, o2, o7, o7c7, o7c8, o7c9]; exact hK _))
      refine aops_nil ?_
      apply AW.cond
      ·(simp only [go_sem, f2, f5, f6, f7, f55, f56, o2, o7, o7c7, o7c8, o7c9]; rfl)
      case ht =>
       intro hb
       try simp only [bo1, bo2, bo3, bo4, bo5, bo6] at hb
       have hbt74 := hb
       have c1 := rv1_bd (loopP (kOf i) (q7 i) k).p
       have wb := loop_bd (kind := kOf i) (p := q7 i) k
       refine AW.draw (cfg := cfg) (by kernel_rfl) (by kernel_rfl) (by kernel_rfl) ?_
       apply adraw_step rfl
       ·intro K hK
        simp (disch := first | omega | decide) only [go_sem, f2, f5, f6, f7, f55, f56, o2, o7, o7c7, o7c8, o7c9, act_fieldAddr_t fo28_8, List.map]
        rw [mwp_fieldAddr_b (by simp only [go_sem, f2, f5, f6, f7, f55, f56, o2, o7, o7c7, o7c8, o7c9]; rfl)]
        exact hK
       apply adraw_step rfl
       ·intro K hK
        simp (disch := first | omega | decide) only [go_sem, f2, f5, f6, f7, f55, f56, o2, o7, o7c7, o7c8, o7c9, act_load_t ti25, List.map]
        rw [mwp_load_b1 (by simp only [go_sem, f2, f5, f6, f7, f55, f56, o2, o7, o7c7, o7c8, o7c9]; rfl) (by rfl)]
        exact hK
       iterate 1 (apply adraw_step rfl; · (intro K hK; simp (disch := first | omega | decide) only [go_sem, f2, f5, f6, f7, f55, f56, o2, o7, o7c7, o7c8, o7c9]; exact hK))
       apply adraw_step rfl
       ·intro K hK
        simp (disch := first | omega | decide) only [go_sem, f2, f5, f6, f7, f55, f56, o2, o7, o7c7, o7c8, o7c9, act_call, List.map]
        apply mwp_call_g rfl rfl rfl
        ·intro Q hQ
         (simp (disch := first | omega | decide) only [go_sem, f2, f5, f6, f7, f55, f56, o2, o7, o7c7, o7c8, o7c9, peekL, reifyL_nil, reifyL_cons, reify_v]; (exact hQ))
        ·exact hG
        ·exact good_rd nv (loopP (kOf i) (q7 i) k).p (wl k) hin 1
        ·simp (disch := first | omega | decide) only [go_sem, f2, f5, f6, f7, f55, f56, o2, o7, o7c7, o7c8, o7c9]
         exact hK
       iterate 2 (apply adraw_step rfl; · (intro K hK; simp (disch := first | omega | decide) only [go_sem, f2, f5, f6, f7, f55, f56, o2, o7, o7c7, o7c8, o7c9, act_convI u71 u3]; exact hK))
       apply adraw_step rfl
       ·intro K hK
        simp (disch := first | omega | decide) only [go_sem, f2, f5, f6, f7, f55, f56, o2, o7, o7c7, o7c8, o7c9, act_call, List.map]
        apply mwp_call_g rfl rfl rfl
        ·intro Q hQ
         (simp (disch := first | omega | decide) only [go_sem, f2, f5, f6, f7, f55, f56, o2, o7, o7c7, o7c8, o7c9, peekL, reifyL_nil, reifyL_cons, reify_v]; (exact hQ))
        ·rfl
        ·exact good_rd nv (rs (loopP (kOf i) (q7 i) k).p 1) (okR_rs (wl k) _) hin 8
        ·simp (disch := first | omega | decide) only [go_sem, f2, f5, f6, f7, f55, f56, o2, o7, o7c7, o7c8, o7c9]
         exact hK
       iterate 1 (apply adraw_step rfl; · (intro K hK; simp (disch := first | omega | decide) only [go_sem, f2, f5, f6, f7, f55, f56, o2, o7, o7c7, o7c8, o7c9, act_convI u71 u3]; exact hK))
       apply adraw_step rfl
       ·intro K hK
        simp (disch := first | omega | decide) only [go_sem, f2, f5, f6, f7, f55, f56, o2, o7, o7c7, o7c8, o7c9, act_build_t ti76 pl76, List.map]
        simp [-List.map_take, -List.map_drop, fillL, okOne, cellishAV, Value.oneCell', cellsL, cellsOf, setAt, M.bind, Mwp, mset_same, Obj.isArr, o2, o7, o7c7, o7c8, o7c9]
        exact hK
       apply adraw_step rfl
       ·intro K hK
        rw [act_bs el25 ti76]
        (simp [-List.map_take, -List.map_drop, -BitVec.toNat_ofInt, -BitVec.ofInt_natCast, -BitVec.toNat_setWidth, -BitVec.toNat_ushiftRight, -BitVec.toNat_umod, -BitVec.toNat_udiv, go_sem, elems_v, cellishAV, Value.oneCell', isAggAV, partsOf, TI.z, TI.mk1, f2, f5, f6, f7, f55, f56, o2, o7, o7c7, o7c8, o7c9]; exact hK)
       apply adraw_step rfl
       ·intro K hK
        simp (disch := first | omega | decide) only [go_sem, f2, f5, f6, f7, f55, f56, o2, o7, o7c7, o7c8, o7c9, List.map]
        apply mwp_append2 el25 ti76 u25
        case hpk => intro Q hQ; (rw [peek_own (by simp (disch := first | omega | decide) only [go_sem, f2, f5, f6, f7, f55, f56, o2, o7, o7c7, o7c8, o7c9]; rfl)]; (try rw [sub_full (by rfl)]); exact hQ)
        case hs' => rfl
        case ho => simp (disch := first | omega | decide) only [go_sem, f2, f5, f6, f7, f55, f56, o2, o7, o7c7, o7c8, o7c9]; rfl
        case hsz => rfl
        case hhi => (simp; done)
        case hb => (simp [sub, roomB]; omega)
        case hy => exact all_cells rfl
        case k => (try simp only [List.nil_append, ← List.map_append, Bool.false_and]); exact hK
       apply adraw_step rfl
       ·intro K hK
        simp (disch := first | omega | decide) only [go_sem, f2, f5, f6, f7, f55, f56, o2, o7, o7c7, o7c8, o7c9, act_fieldAddr_t fo28_8, List.map]
        rw [mwp_fieldAddr_b (by simp (disch := first | omega | decide) only [go_sem, f2, f5, f6, f7, f55, f56, o2, o7, o7c7, o7c8, o7c9]; rfl)]
        exact hK
       apply adraw_step0 rfl
       ·intro K hK
        simp (disch := first | omega | decide) only [go_sem, f2, f5, f6, f7, f55, f56, o2, o7, o7c7, o7c8, o7c9, act_store_t ti25, List.map]
        rw [mwp_store_o (by simp (disch := first | omega | decide) only [go_sem, f2, f5, f6, f7, f55, f56, o2, o7, o7c7, o7c8, o7c9]; rfl) (by simp (disch := first | omega | decide) only [go_sem, f2, f5, f6, f7, f55, f56, o2, o7, o7c7, o7c8, o7c9]; rfl) (by decide) (by simp)]
        (simp [-List.map_take, -List.map_drop, aStore, cellsL, settleL, settle, M.bind, Mwp, freezeN, cellishAV, Value.oneCell', setAt, sub, mset_same, mset_ne, List.take_of_length_le, f2, f5, f6, f7, f55, f56, o2, o7, o7c7, o7c8, o7c9])
        try simp only [setAt, cellsL, cellsOf_agg, cellsOf_base, List.map_cons, List.map_nil, List.set_cons_zero, List.set_cons_succ, Nat.reduceAdd, Nat.zero_add, hG]
        exact hK
       refine adraw_nil (by kernel_rfl) ?_
       refine AW.region (cfg := cfg) ?_
       iterate 2 (apply aops_step (by decide) rfl; · (intro K hK; simp (disch := first | omega | decide) only [go_sem, f2, f5, f6, f7, f55, f56, o2, o7, o7c7, o7c8, o7c9]; exact hK _))
       refine aops_nil ?_
       refine ⟨_, _, rfl, ?_, ?_, ?_, ?_, ?_, ?_, ?_, ?_, ?_, ?_, ?_, (by intro i; simp [Mem.set, hr]), (by (simp only [mset_G, hG, loop_s2 (Or.inr hbt74)]; done))⟩ <;> try simp (disch := first | omega | decide) only [go_sem, f2, f5, f6, f7, f55, f56, o2, o7, o7c7, o7c8, o7c9]
       all_goals first | rfl | (simp only [loop_s2 (Or.inr hbt74)]; done) | (simp only [loop_s2 (Or.inr hbt74)]; simp [itemP, linkA]; done)
      case hf =>
       intro hb
       try simp only [bo1, bo2, bo3, bo4, bo5, bo6] at hb
       have hbt74 := hb
       refine AW.sr (cfg := cfg) ?_
       iterate 2 (apply aops_step (by decide) rfl; · (intro K hK; simp (disch := first | omega | decide) only [go_sem, f2, f5, f6, f7, f55, f56, o2, o7, o7c7, o7c8, o7c9]; exact hK _))
       refine aops_nil ?_
       apply AW.cond
       ·(simp only [go_sem, f2, f5, f6, f7, f55, f56, o2, o7, o7c7, o7c8, o7c9]; rfl)
       case ht =>
        intro hb
        try simp only [bo1, bo2, bo3, bo4, bo5, bo6] at hb
        have hbt89 := hb
        refine AW.sr (cfg := cfg) ?_
        iterate 1 (apply aops_step (by decide) rfl; · (intro K hK; simp (disch := first | omega | decide) only [go_sem, f2, f5, f6, f7, f55, f56, o2, o7, o7c7, o7c8, o7c9]; exact hK _))
        apply aops_step (by decide) rfl
        ·intro K hK
         simp (disch := first | omega | decide) only [go_sem, f2, f5, f6, f7, f55, f56, o2, o7, o7c7, o7c8, o7c9, act_call, List.map]
         apply mwp_call_g rfl rfl rfl
         ·intro Q hQ
          (simp (disch := first | omega | decide) only [go_sem, f2, f5, f6, f7, f55, f56, o2, o7, o7c7, o7c8, o7c9, peekL, reifyL_nil, reifyL_cons, reify_v]; (exact hQ))
         ·exact hG
         ·exact good_rdL nv (loopP (kOf i) (q7 i) k).p (wl k) hin
         ·simp (disch := first | omega | decide) only [go_sem, f2, f5, f6, f7, f55, f56, o2, o7, o7c7, o7c8, o7c9]
          exact hK _
        iterate 3 (apply aops_step (by decide) rfl; · (intro K hK; simp (disch := first | omega | decide) only [go_sem, f2, f5, f6, f7, f55, f56, o2, o7, o7c7, o7c8, o7c9]; exact hK _))
        apply aops_step (by decide) rfl
        ·intro K hK
         simp (disch := first | omega | decide) only [go_sem, f2, f5, f6, f7, f55, f56, o2, o7, o7c7, o7c8, o7c9, act_alloc_t ti79, List.map]
         exact hK _
        apply aops_step0 rfl
        ·intro K hK
         simp (disch := first | omega | decide) only [go_sem, f2, f5, f6, f7, f55, f56, o2, o7, o7c7, o7c8, o7c9, act_store_t ti79, List.map]
         rw [mwp_store_c (by simp (disch := first | omega | decide) only [go_sem, f2, f5, f6, f7, f55, f56, o2, o7, o7c7, o7c8, o7c9]; rfl) (by rfl) (by rfl) (by rfl) (by simp)]
         (simp [-List.map_take, -List.map_drop, aStore, cellsL, settleL, settle, M.bind, Mwp, freezeN, cellishAV, Value.oneCell', setAt, sub, mset_same, mset_ne, List.take_of_length_le, f2, f5, f6, f7, f55, f56, o2, o7, o7c7, o7c8, o7c9])
         try simp only [setAt, cellsL, cellsOf_agg, cellsOf_base, List.map_cons, List.map_nil, List.set_cons_zero, List.set_cons_succ, Nat.reduceAdd, Nat.zero_add, hG]
         exact hK _
        iterate 1 (apply aops_step (by decide) rfl; · (intro K hK; simp (disch := first | omega | decide) only [go_sem, f2, f5, f6, f7, f55, f56, o2, o7, o7c7, o7c8, o7c9]; exact hK _))
        refine aops_nil ?_
        have wb := loop_bd (kind := kOf i) (p := q7 i) k
        refine AW.region (cfg := cfg) ?_
        refine aops_fl (by decide) (by decide) fo28_9 ti26 (by simp (disch := first | omega | decide) only [go_sem, f2, f5, f6, f7, f55, f56, o2, o7, o7c7, o7c8, o7c9]; rfl) (by simp (disch := first | omega | decide) only [go_sem, f2, f5, f6, f7, f55, f56, o2, o7, o7c7, o7c8, o7c9]; rfl) (by rfl) ?_
        apply aops_step (by decide) rfl
        ·intro K hK
         simp (disch := first | omega | decide) only [go_sem, f2, f5, f6, f7, f55, f56, o2, o7, o7c7, o7c8, o7c9, act_load_t ti79, List.map]
         rw [mwp_load_bs (by simp (disch := first | omega | decide) only [go_sem, f2, f5, f6, f7, f55, f56, o2, o7, o7c7, o7c8, o7c9]; rfl) (by simp [setAt])]
         try simp only [List.drop_zero, List.drop_succ_cons, List.take_succ_cons, List.take_zero]
         exact hK _
        apply aops_step (by decide) rfl
        ·intro K hK
         rw [act_bs el26 ti79]
         (simp [-List.map_take, -List.map_drop, -BitVec.toNat_ofInt, -BitVec.ofInt_natCast, -BitVec.toNat_setWidth, -BitVec.toNat_ushiftRight, -BitVec.toNat_umod, -BitVec.toNat_udiv, go_sem, elems_v, cellishAV, Value.oneCell', isAggAV, partsOf, TI.z, TI.mk1, f2, f5, f6, f7, f55, f56, o2, o7, o7c7, o7c8, o7c9]; exact hK _)
        apply aops_step (by decide) rfl
        ·intro K hK
         simp (disch := first | omega | decide) only [go_sem, f2, f5, f6, f7, f55, f56, o2, o7, o7c7, o7c8, o7c9, List.map]
         apply mwp_append2 el26 ti79 u26
         case hpk => intro Q hQ; (rw [peek_own (by simp (disch := first | omega | decide) only [go_sem, f2, f5, f6, f7, f55, f56, o2, o7, o7c7, o7c8, o7c9]; rfl)]; (try rw [sub_full (by rfl)]); exact hQ)
         case hs' => rfl
         case ho => simp (disch := first | omega | decide) only [go_sem, f2, f5, f6, f7, f55, f56, o2, o7, o7c7, o7c8, o7c9]; rfl
         case hsz => rfl
         case hhi => (simp; done)
         case hb => (simp [sub, roomB]; omega)
         case hy => exact all_cells rfl
         case k => (try simp only [List.nil_append, ← List.map_append, Bool.false_and]); exact hK _
        apply aops_step (by decide) rfl
        ·intro K hK
         simp (disch := first | omega | decide) only [go_sem, f2, f5, f6, f7, f55, f56, o2, o7, o7c7, o7c8, o7c9, act_fieldAddr_t fo28_9, List.map]
         rw [mwp_fieldAddr_b (by simp (disch := first | omega | decide) only [go_sem, f2, f5, f6, f7, f55, f56, o2, o7, o7c7, o7c8, o7c9]; rfl)]
         exact hK _
        apply aops_step0 rfl
        ·intro K hK
         simp (disch := first | omega | decide) only [go_sem, f2, f5, f6, f7, f55, f56, o2, o7, o7c7, o7c8, o7c9, act_store_t ti26, List.map]
         rw [mwp_store_o (by simp (disch := first | omega | decide) only [go_sem, f2, f5, f6, f7, f55, f56, o2, o7, o7c7, o7c8, o7c9]; rfl) (by simp (disch := first | omega | decide) only [go_sem, f2, f5, f6, f7, f55, f56, o2, o7, o7c7, o7c8, o7c9]; rfl) (by decide) (by simp)]
         (simp [-List.map_take, -List.map_drop, aStore, cellsL, settleL, settle, M.bind, Mwp, freezeN, cellishAV, Value.oneCell', setAt, sub, mset_same, mset_ne, List.take_of_length_le, f2, f5, f6, f7, f55, f56, o2, o7, o7c7, o7c8, o7c9])
         try simp only [setAt, cellsL, cellsOf_agg, cellsOf_base, List.map_cons, List.map_nil, List.set_cons_zero, List.set_cons_succ, Nat.reduceAdd, Nat.zero_add, hG]
         exact hK _
        refine aops_nil ?_
        refine AW.region (cfg := cfg) ?_
        iterate 2 (apply aops_step (by decide) rfl; · (intro K hK; simp (disch := first | omega | decide) only [go_sem, f2, f5, f6, f7, f55, f56, o2, o7, o7c7, o7c8, o7c9]; exact hK _))
        refine aops_nil ?_
        refine ⟨_, _, rfl, ?_, ?_, ?_, ?_, ?_, ?_, ?_, ?_, ?_, ?_, ?_, (by intro i; simp [Mem.set, hr]), (by (simp only [mset_G, hG, loop_s4 hbt89]; done))⟩ <;> try simp (disch := first | omega | decide) only [go_sem, f2, f5, f6, f7, f55, f56, o2, o7, o7c7, o7c8, o7c9]
        all_goals first | rfl | (simp only [loop_s4 hbt89]; done) | (simp only [loop_s4 hbt89]; simp [lsaA]; done)
       case hf =>
        intro hb
        try simp only [bo1, bo2, bo3, bo4, bo5, bo6] at hb
        have hbt89 := hb
        refine AW.skip ?_
        refine AW.region (cfg := cfg) ?_
        iterate 2 (apply aops_step (by decide) rfl; · (intro K hK; simp (disch := first | omega | decide) only [go_sem, f2, f5, f6, f7, f55, f56, o2, o7, o7c7, o7c8, o7c9]; exact hK _))
        refine aops_nil ?_
        refine ⟨_, _, rfl, ?_, ?_, ?_, ?_, ?_, ?_, ?_, ?_, ?_, ?_, ?_, (by intro i; simp [Mem.set, hr]), (by (simp only [mset_G, hG, loop_s0 (show ¬ kOf i = 1 ∧ ¬ (kOf i = 2 ∨ kOf i = 5) ∧ ¬ kOf i = 4 by omega)]; done))⟩ <;> try simp (disch := first | omega | decide) only [go_sem, f2, f5, f6, f7, f55, f56, o2, o7, o7c7, o7c8, o7c9]
        all_goals first | rfl | (simp only [loop_s0 (show ¬ kOf i = 1 ∧ ¬ (kOf i = 2 ∨ kOf i = 5) ∧ ¬ kOf i = 4 by omega)]; done)
   ·clear f2 f5 f6 f7 f8 o2 o7 hr hG
    rintro σ ⟨s, m, rfl, f2, o2, f5, f6, f7, o7, o7c7, o7c8, o7c9, f55, f56, hr, hG⟩
    obtain ⟨g2, o2⟩ : ∃ g, m.objs (.tmp 2 0) = (g, .box [.v (i64 0), .v (i64 0), .v (i64 0), .v (i64 0), .v (i64 0), .v (i64 0), .v (i64 0), .v (.sl 2 true []), .v (.sl 2 true []), .v (.sl 3 true [])]) := ⟨_, Prod.ext rfl o2⟩
    rw [o2] at f2
    obtain ⟨g7c7, o7c7⟩ : ∃ g, m.objs (.cell 7 7) = (g, .arr (loopP (kOf i) (q7 i) ((nOf i).toNat)).hs.isEmpty 2 ((loopP (kOf i) (q7 i) ((nOf i).toNat)).hs.map linkA)) := ⟨_, Prod.ext rfl o7c7⟩
    rw [o7c7] at o7
    obtain ⟨g7c8, o7c8⟩ : ∃ g, m.objs (.cell 7 8) = (g, .arr (loopP (kOf i) (q7 i) ((nOf i).toNat)).xs.isEmpty 2 ((loopP (kOf i) (q7 i) ((nOf i).toNat)).xs.map linkA)) := ⟨_, Prod.ext rfl o7c8⟩
    rw [o7c8] at o7
    obtain ⟨g7c9, o7c9⟩ : ∃ g, m.objs (.cell 7 9) = (g, .arr (loopP (kOf i) (q7 i) ((nOf i).toNat)).ls.isEmpty 3 ((loopP (kOf i) (q7 i) ((nOf i).toNat)).ls.map lsaA)) := ⟨_, Prod.ext rfl o7c9⟩
    rw [o7c9] at o7
    simp only at o7
    obtain ⟨g7, o7⟩ : ∃ g, m.objs (.tmp 7 0) = (g, .box [.v (i64 (kOf i)), .v (i64 (rv (q1 i) 1)), .v (i64 (rv (q2 i) 4)), .v (i64 (rv (q3 i) 1)), .v (i64 (rv (q4 i) 4)), .v (i64 (epOf i)), .v (i64 (teOf i)), .own (.cell 7 7) g7c7 0 (loopP (kOf i) (q7 i) ((nOf i).toNat)).hs.length, .own (.cell 7 8) g7c8 0 (loopP (kOf i) (q7 i) ((nOf i).toNat)).xs.length, .own (.cell 7 9) g7c9 0 (loopP (kOf i) (q7 i) ((nOf i).toNat)).ls.length]) := ⟨_, Prod.ext rfl o7⟩
    rw [o7] at f7
    refine AW.sr (cfg := cfg) ?_
    iterate 1 (apply aops_step (by decide) rfl; · (intro K hK; simp (disch := first | omega | decide) only [go_sem, f2, f5, f6, f7, f55, f56, o2, o7, o7c7, o7c8, o7c9]; exact hK _))
    refine aops_nil ?_
    refine AW.seq ?_
    apply AW.cond
    ·(simp only [go_sem, f2, f5, f6, f7, f55, f56, o2, o7, o7c7, o7c8, o7c9]; rfl)
    case ht => intro hb; (simp at hb; omega)
    case hf =>
    intro hb
    have hbt57 := hb
    refine AW.exit ?_
    refine AW.seq ?_
    refine AW.seq ?_
    have hbd := loop_bd (kind := kOf i) (p := q7 i) (nOf i).toNat
    refine AW.region (cfg := cfg) ?_
    iterate 3 (apply aops_step (by decide) rfl; · (intro K hK; simp (disch := first | omega | decide) only [go_sem, f2, f5, f6, f7, f55, f56, o2, o7, o7c7, o7c8, o7c9]; exact hK _))
    apply aops_merge' (by decide) (by exact want_of (d := 105) rfl (by simp only [go_sem, f2, f5, f6, f7, f55, f56, o2, o7, o7c7, o7c8, o7c9, opn_cond]; rfl))
    ·intro hc K hK
     simp (disch := first | omega | decide) only [go_sem, f2, f5, f6, f7, f55, f56, o2, o7, o7c7, o7c8, o7c9, opn_cond, hc, if_true]
     exact hK _
    apply aops_merge' (by decide) (by exact want_of (d := 105) rfl (by simp (disch := first | omega | decide) only [go_sem, f2, f5, f6, f7, f55, f56, o2, o7, o7c7, o7c8, o7c9, opn_cond]; rfl))
    ·intro hc K hK
     have hc2 := hc
     simp only [beq_iff_eq, decide_eq_true_eq, decide_eq_false_iff_not, Bool.or_eq_true, Bool.and_eq_true, Bool.or_eq_false_iff, Bool.and_eq_false_iff] at hc2
     simp (disch := first | omega | decide) only [go_sem, f2, f5, f6, f7, f55, f56, o2, o7, o7c7, o7c8, o7c9, opn_cond, hc, if_true, act_call, List.map]
     apply mwp_call_g rfl rfl rfl
     ·intro Q hQ
      (simp (disch := first | omega | decide) only [go_sem, f2, f5, f6, f7, f55, f56, o2, o7, o7c7, o7c8, o7c9, opn_cond, hc, if_true, peekL, reifyL_nil, reifyL_cons, reify_v]; (exact hQ))
     ·exact hG
     ·exact O.good_Done nv (loopP (kOf i) (q7 i) (nOf i).toNat).p.1 (loopP (kOf i) (q7 i) (nOf i).toNat).p.2 (by have := (wl (nOf i).toNat).1; omega) (wl (nOf i).toNat).2
     ·simp (disch := first | omega | decide) only [go_sem, f2, f5, f6, f7, f55, f56, o2, o7, o7c7, o7c8, o7c9, opn_cond, hc, if_true]
      rw [mem_eta (by exact hG)]
      exact hK _
    apply aops_merge' (by decide) (by exact want_of (d := 105) rfl (by simp (disch := first | omega | decide) only [go_sem, f2, f5, f6, f7, f55, f56, o2, o7, o7c7, o7c8, o7c9, opn_cond]; rfl))
    ·intro hc K hK
     simp (disch := first | omega | decide) only [go_sem, f2, f5, f6, f7, f55, f56, o2, o7, o7c7, o7c8, o7c9, opn_cond, hc, if_true]
     exact hK _
    iterate 2 (apply aops_step (by decide) rfl; · (intro K hK; simp (disch := first | omega | decide) only [go_sem, f2, f5, f6, f7, f55, f56, o2, o7, o7c7, o7c8, o7c9]; exact hK _))
    apply aops_merge' (by decide) (by exact want_of (d := 110) rfl (by simp only [go_sem, f2, f5, f6, f7, f55, f56, o2, o7, o7c7, o7c8, o7c9, opn_cond]; rfl))
    ·intro hc K hK
     simp (disch := first | omega | decide) only [go_sem, f2, f5, f6, f7, f55, f56, o2, o7, o7c7, o7c8, o7c9, opn_cond, hc, if_true, act_load_t ti28]
     rw [mwp_load_bs (by simp (disch := first | omega | decide) only [go_sem, f2, f5, f6, f7, f55, f56, o2, o7, o7c7, o7c8, o7c9, opn_cond, hc, if_true]; rfl) (by simp [setAt])]
     try simp only [List.drop_zero, List.drop_succ_cons, List.take_succ_cons, List.take_zero]
     exact hK _
    apply aops_merge' (by decide) (by exact want_of (d := 110) rfl (by simp (disch := first | omega | decide) only [go_sem, f2, f5, f6, f7, f55, f56, o2, o7, o7c7, o7c8, o7c9, opn_cond]; rfl))
    ·intro hc K hK
     have hc2 := hc
     simp only [beq_iff_eq, decide_eq_true_eq, decide_eq_false_iff_not, Bool.or_eq_true, Bool.and_eq_true, Bool.or_eq_false_iff, Bool.and_eq_false_iff] at hc2
     simp (disch := first | omega | decide) only [go_sem, f2, f5, f6, f7, f55, f56, o2, o7, o7c7, o7c8, o7c9, opn_cond, hc, if_true, act_call, List.map]
     apply mwp_call_s rfl rfl rfl
     ·intro Q hQ
      ((try simp only [opn_agg, opn_own, opn_v]); (try simp only [List.drop_zero, List.drop_succ_cons, List.take_succ_cons, List.take_zero]); (repeat (first | rw [mwp_peekL_agg] | rw [mwp_peekL_v] | rw [mwp_peekL_arr (by simp only [go_sem, f2, f5, f6, f7, f55, f56, o2, o7, o7c7, o7c8, o7c9, opn_cond, hc, if_true]; rfl)] | rw [mwp_peekL_nil])); (repeat (rw [sub_full (by (simp only [List.length_map, List.length_replicate]; done))])); exact hQ)
     ·exact good_Check (rawP i) (by have := hbd.1; show ((loopP (kOf i) (q7 i) (nOf i).toNat).hs.length) ≤ _; omega) (by have := hbd.2.1; show ((loopP (kOf i) (q7 i) (nOf i).toNat).xs.length) ≤ _; omega) (by have := hbd.2.2.1; show ((loopP (kOf i) (q7 i) (nOf i).toNat).ls.length) ≤ _; omega) (fun x hx => by have := hbd.2.2.2 x hx; omega)
     ·simp [-List.map_take, -List.map_drop, -List.map_append, -List.map_replicate, -List.reduceReplicate, noPtrL, noPtr, noPtrL_bsl, noPtrL_map, sub]
     ·rfl
     ·exact hK _
    apply aops_merge' (by decide) (by exact want_of (d := 110) rfl (by simp (disch := first | omega | decide) only [go_sem, f2, f5, f6, f7, f55, f56, o2, o7, o7c7, o7c8, o7c9, opn_cond]; rfl))
    ·intro hc K hK
     simp (disch := first | omega | decide) only [go_sem, f2, f5, f6, f7, f55, f56, o2, o7, o7c7, o7c8, o7c9, opn_cond, hc, if_true]
     exact hK _
    iterate 1 (apply aops_step (by decide) rfl; · (intro K hK; simp (disch := first | omega | decide) only [go_sem, f2, f5, f6, f7, f55, f56, o2, o7, o7c7, o7c8, o7c9]; exact hK _))
    refine aops_nil ?_
    apply AW.cond
    ·(simp only [go_sem, f2, f5, f6, f7, f55, f56, o2, o7, o7c7, o7c8, o7c9]; rfl)
    case ht =>
     intro hb
     try simp only [bo1, bo2, bo3, bo4, bo5, bo6] at hb
     have hbt114 := hb
     refine AW.sr (cfg := cfg) ?_
     apply aops_step (by decide) rfl
     ·intro K hK
      simp (disch := first | omega | decide) only [go_sem, f2, f5, f6, f7, f55, f56, o2, o7, o7c7, o7c8, o7c9, act_build_t ti28 pl28, List.map]
      simp [-List.map_take, -List.map_drop, fillL, okOne, cellishAV, Value.oneCell', cellsL, cellsOf, setAt, M.bind, Mwp, mset_same, Obj.isArr, o2, o7, o7c7, o7c8, o7c9]
      exact hK _
     apply aops_step0 rfl
     ·intro K hK
      simp (disch := first | omega | decide) only [go_sem, f2, f5, f6, f7, f55, f56, o2, o7, o7c7, o7c8, o7c9, act_store_t ti28, List.map]
      rw [mwp_store_c (by simp (disch := first | omega | decide) only [go_sem, f2, f5, f6, f7, f55, f56, o2, o7, o7c7, o7c8, o7c9]; rfl) (by rfl) (by rfl) (by rfl) (by simp)]
      (simp [-List.map_take, -List.map_drop, aStore, cellsL, settleL, settle, M.bind, Mwp, freezeN, cellishAV, Value.oneCell', setAt, sub, mset_same, mset_ne, List.take_of_length_le, f2, f5, f6, f7, f55, f56, o2, o7, o7c7, o7c8, o7c9])
      try simp only [setAt, cellsL, cellsOf_agg, cellsOf_base, List.map_cons, List.map_nil, List.set_cons_zero, List.set_cons_succ, Nat.reduceAdd, Nat.zero_add, hG]
      exact hK _
     iterate 1 (apply aops_step (by decide) rfl; · (intro K hK; simp (disch := first | omega | decide) only [go_sem, f2, f5, f6, f7, f55, f56, o2, o7, o7c7, o7c8, o7c9]; exact hK _))
     refine aops_nil ?_
     refine AW.ret ?_
     refine ⟨.inr rfl, ?_⟩
     apply Exists.intro
     (have z := pk_goI hi hbt114; obtain ⟨e1, e2⟩ := pk_not z; rw [e1, e2])
     refine leaves_mwp2 (rs := [.cell 2 28, .tmp 3]) rfl ?_; simp (config := {failIfUnchanged := false}) [giveL, srcOne, rehome, freezeN, sub, ti28, upd, opn, aLoad, loadL, giveOne, reify, reifyL, readL, readOne, Mwp, M.bind, Mem.set, setAt, cellsL, hG, f2, f5, f6, f7, f55, f56, o2, o7, o7c7, o7c8, o7c9]
     exact ⟨rfl, rfl⟩
    case hf =>
     intro hb
     try simp only [bo1, bo2, bo3, bo4, bo5, bo6] at hb
     have hbt114 := hb
     refine AW.skip ?_
     refine AW.sr (cfg := cfg) ?_
     apply aops_step (by decide) rfl
     ·intro K hK
      simp (disch := first | omega | decide) only [go_sem, f2, f5, f6, f7, f55, f56, o2, o7, o7c7, o7c8, o7c9, act_load_t ti28, List.map]
      rw [mwp_load_bs (by simp (disch := first | omega | decide) only [go_sem, f2, f5, f6, f7, f55, f56, o2, o7, o7c7, o7c8, o7c9]; rfl) (by simp [setAt])]
      try simp only [List.drop_zero, List.drop_succ_cons, List.take_succ_cons, List.take_zero]
      exact hK _
     apply aops_step0 rfl
     ·intro K hK
      simp (disch := first | omega | decide) only [go_sem, f2, f5, f6, f7, f55, f56, o2, o7, o7c7, o7c8, o7c9, act_store_t ti28, List.map]
      (refine mwp_store_gen (by simp (disch := first | omega | decide) only [go_sem, f2, f5, f6, f7, f55, f56, o2, o7, o7c7, o7c8, o7c9]; rfl) ?_; simp only [cellsL]; (try simp only [List.drop_zero, List.drop_succ_cons, List.take_succ_cons, List.take_zero]); (repeat (first | rw [mwp_settleL_v (by rfl)] | rw [mwp_settleL_cell (by decide) (by simp (disch := first | omega | decide) only [go_sem, f2, f5, f6, f7, f55, f56, o2, o7, o7c7, o7c8, o7c9]; rfl)])); rw [mwp_settleL_nil]; refine ⟨by simp (disch := first | omega | decide) only [go_sem, f2, f5, f6, f7, f55, f56, o2, o7, o7c7, o7c8, o7c9] <;> rfl, rfl, by simp, ?_⟩)
      (simp [-List.map_take, -List.map_drop, aStore, cellsL, settleL, settle, M.bind, Mwp, freezeN, cellishAV, Value.oneCell', setAt, sub, mset_same, mset_ne, List.take_of_length_le, f2, f5, f6, f7, f55, f56, o2, o7, o7c7, o7c8, o7c9])
      try simp only [setAt, cellsL, cellsOf_agg, cellsOf_base, List.map_cons, List.map_nil, List.set_cons_zero, List.set_cons_succ, Nat.reduceAdd, Nat.zero_add, hG]
      exact hK _
     iterate 1 (apply aops_step (by decide) rfl; · (intro K hK; simp (disch := first | omega | decide) only [go_sem, f2, f5, f6, f7, f55, f56, o2, o7, o7c7, o7c8, o7c9]; exact hK _))
     refine aops_nil ?_
     refine AW.ret ?_
     refine ⟨.inr rfl, ?_⟩
     apply Exists.intro
     (have z := pk_inI hi hbt114; obtain ⟨e1, e2⟩ := pk_yes z; rw [e1, e2, ← hi])
     refine leaves_mwp2 (rs := [.cell 2 28, .tmp 3]) rfl ?_; simp (config := {failIfUnchanged := false}) [giveL, srcOne, rehome, freezeN, sub, ti28, upd, opn, aLoad, loadL, giveOne, reify, reifyL, readL, readOne, Mwp, M.bind, Mem.set, setAt, cellsL, hG, f2, f5, f6, f7, f55, f56, o2, o7, o7c7, o7c8, o7c9]
     exact ⟨rfl, rfl⟩
end Go.Vai.P
