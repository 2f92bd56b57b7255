import Derived.Test.YtblgcekomnnfmaagLsa
namespace Go.Vai.L
open Go.Proofs Go.Vai Go.Vai.O
set_option linter.unusedSimpArgs false
set_option linter.unusedVariables false
set_option maxHeartbeats 4000000
set_option maxRecDepth 100000
theorem good_Read (nil : Bool) (l : List (BitVec 8)) (w : Bool) (hl : l.length ≤ 140737488355000) (hz : nil = true → l = []) : Good Try.prog 35 [(.gp 0 0, false)] [[.sl 1 (nil) (bsl (l)), .b (w)]] [(lsaA (rdL l w), false), (.b (rdOK l w), false)] [[.sl 1 (nil) (bsl (rdR l w)), .b (rdW l w)]] := by
 refine good_of_body2 48 Try.func35 rfl rfl rfl (by simp) ?_
 intro s m ha hr hv hG
 have f0 : s 0 = .v (.gp 0 0) := ha 0 _ rfl
 clear ha
 have v0 := rnV_range1 l w
 have v2 := rnV_range1 (rnL (rnL l w 1) (rnW l w 1) 8) (rnW (rnL l w 1) (rnW l w 1) 8)
 have ll1 := rnL_len l w 1
 have ll2 := rnL_len (rnL l w 1) (rnW l w 1) 8
 have ll3 := rnL_len (rnL (rnL l w 1) (rnW l w 1) 8) (rnW (rnL l w 1) (rnW l w 1) 8) 1
 have lz1 : nil = true → (rnL l w 1) = [] := fun h => rnL_nil (hz h) _ _
 have lz2 : nil = true → (rnL (rnL l w 1) (rnW l w 1) 8) = [] := fun h => rnL_nil (lz1 h) _ _
 have lz3 : nil = true → (rnL (rnL (rnL l w 1) (rnW l w 1) 8) (rnW (rnL l w 1) (rnW l w 1) 8) 1) = [] := fun h => rnL_nil (lz2 h) _ _
 refine AW.sr (cfg := cfg) ?_
 apply aops_step (by decide) rfl
 ·intro K hK
  simp (disch := first | omega | decide) only [go_sem, f0, act_alloc_t ti79, List.map]
  exact hK _
 iterate 1 (apply aops_step (by decide) rfl; · (intro K hK; simp (disch := first | omega | decide) only [go_sem, f0]; exact hK _))
 refine aops_nil ?_
 refine AW.sr (cfg := cfg) ?_
 iterate 1 (apply aops_step (by decide) rfl; · (intro K hK; simp (disch := first | omega | decide) only [go_sem, f0]; exact hK _))
 apply aops_step (by decide) rfl
 ·intro K hK
  simp (disch := first | omega | decide) only [go_sem, f0, act_call, List.map]
  apply mwp_call_g rfl rfl rfl
  ·intro Q hQ
   (simp (disch := first | omega | decide) only [go_sem, f0, peekL, reifyL_nil, reifyL_cons, reify_v]; (exact hQ))
  ·exact hG
  ·exact O.good_NumR nil l w (by omega) hz 1
  ·simp (disch := first | omega | decide) only [go_sem, f0]
   exact hK _
 iterate 2 (apply aops_step (by decide) rfl; · (intro K hK; simp (disch := first | omega | decide) only [go_sem, f0, act_convI u71 u3]; exact hK _))
 apply aops_step (by decide) rfl
 ·intro K hK
  simp (disch := first | omega | decide) only [go_sem, f0, act_call, List.map]
  apply mwp_call_g rfl rfl rfl
  ·intro Q hQ
   (simp (disch := first | omega | decide) only [go_sem, f0, peekL, reifyL_nil, reifyL_cons, reify_v]; (exact hQ))
  ·rfl
  ·exact O.good_NumR nil (rnL l w 1) (rnW l w 1) (by omega) lz1 8
  ·simp (disch := first | omega | decide) only [go_sem, f0]
   exact hK _
 iterate 1 (apply aops_step (by decide) rfl; · (intro K hK; simp (disch := first | omega | decide) only [go_sem, f0, act_convI u71 u3]; exact hK _))
 apply aops_step (by decide) rfl
 ·intro K hK
  simp (disch := first | omega | decide) only [go_sem, f0, act_build_t ti79 pl79, List.map]
  simp [-List.map_take, -List.map_drop, fillL, okOne, cellishAV, Value.oneCell', cellsL, cellsOf, setAt, M.bind, Mwp, mset_same, Obj.isArr]
  exact hK _
 apply aops_step (by decide) rfl
 ·intro K hK
  simp (disch := first | omega | decide) only [go_sem, f0, act_alloc_t ti79, List.map]
  exact hK _
 apply aops_step0 rfl
 ·intro K hK
  simp (disch := first | omega | decide) only [go_sem, f0, act_store_t ti79, List.map]
  rw [mwp_store_c (by simp (disch := first | omega | decide) only [go_sem, f0]; rfl) (by rfl) (by rfl) (by rfl) (by simp)]
  (simp [-List.map_take, -List.map_drop, aStore, cellsL, settleL, settle, M.bind, Mwp, freezeN, cellishAV, Value.oneCell', setAt, sub, mset_same, mset_ne, List.take_of_length_le, f0])
  try simp only [setAt, cellsL, cellsOf_agg, cellsOf_base, List.map_cons, List.map_nil, List.set_cons_zero, List.set_cons_succ, Nat.reduceAdd, Nat.zero_add, hG]
  exact hK _
 refine aops_nil ?_
 refine AW.sr (cfg := cfg) ?_
 iterate 1 (apply aops_step (by decide) rfl; · (intro K hK; simp (disch := first | omega | decide) only [go_sem, f0]; exact hK _))
 apply aops_step (by decide) rfl
 ·intro K hK
  simp (disch := first | omega | decide) only [go_sem, f0, act_call, List.map]
  apply mwp_call_g rfl rfl rfl
  ·intro Q hQ
   (simp (disch := first | omega | decide) only [go_sem, f0, peekL, reifyL_nil, reifyL_cons, reify_v]; (exact hQ))
  ·rfl
  ·exact O.good_NumR nil (rnL (rnL l w 1) (rnW l w 1) 8) (rnW (rnL l w 1) (rnW l w 1) 8) (by omega) lz2 1
  ·simp (disch := first | omega | decide) only [go_sem, f0]
   exact hK _
 iterate 2 (apply aops_step (by decide) rfl; · (intro K hK; simp (disch := first | omega | decide) only [go_sem, f0, act_convI u71 u3]; exact hK _))
 refine aops_nil ?_
 refine AW.seq ?_
 refine AW.seq ?_
 refine AW.cellNil 4 2 2 (by simp (disch := first | omega | decide) only [go_sem, f0]; rfl) (by rfl) ?_
 refine AW.region (cfg := cfg) ?_
 iterate 1 (apply aops_step (by decide) rfl; · (intro K hK; simp (disch := first | omega | decide) only [go_sem, f0]; exact hK _))
 refine aops_nil ?_
 refine AW.block ?_
 refine AW.forN (fun k σ => ∃ (s : Nat → LV) (m : Mem) (xs : List LinkS) (lk : List (BitVec 8)) (wk : Bool), σ = ⟨48, s, m⟩ ∧ s 0 = .v (.gp 0 0) ∧ s 2 = .lptr (.tmp 2 0) (m.objs (.tmp 2 0)).1 0 ∧ (m.objs (.tmp 2 0)).2 = .box [.v (i64 0), .v (i64 0), .v (.sl 2 true [])] ∧ s 4 = .lptr (.tmp 4 0) (m.objs (.tmp 4 0)).1 0 ∧ (m.objs (.tmp 4 0)).2 = .box [.v (i64 (rnV l w 1)), .v (i64 (IntKind.i64.wrap (rnV (rnL l w 1) (rnW l w 1) 8))), .own (.cell 4 2) (m.objs (.cell 4 2)).1 0 xs.length] ∧ (m.objs (.cell 4 2)).2 = .arr xs.isEmpty 2 (xs.map linkA) ∧ s 5 = .v (i64 (rnV (rnL (rnL l w 1) (rnW l w 1) 8) (rnW (rnL l w 1) (rnW l w 1) 8) 1)) ∧ s 6 = .v (i64 (k : Int)) ∧ (rdLinks (rnL (rnL (rnL l w 1) (rnW l w 1) 8) (rnW (rnL l w 1) (rnW l w 1) 8) 1) (rnW (rnL (rnL l w 1) (rnW l w 1) 8) (rnW (rnL l w 1) (rnW l w 1) 8) 1) k = (xs, lk, wk)) ∧ (lk.length ≤ l.length) ∧ (nil = true → lk = []) ∧ (xs.length ≤ k) ∧ m.G = [[.sl 1 (nil) (bsl (lk)), .b (wk)]]) ((rnV (rnL (rnL l w 1) (rnW l w 1) 8) (rnW (rnL l w 1) (rnW l w 1) 8) 1).toNat) ?_ ?_ ?_
 ·refine ⟨_, _, [], (rnL (rnL (rnL l w 1) (rnW l w 1) 8) (rnW (rnL l w 1) (rnW l w 1) 8) 1), (rnW (rnL (rnL l w 1) (rnW l w 1) 8) (rnW (rnL l w 1) (rnW l w 1) 8) 1), rfl, ?_, ?_, ?_, ?_, ?_, ?_, ?_, ?_, ?_, ?_, ?_, ?_, (by rfl)⟩ <;> try simp (disch := first | omega | decide) only [go_sem, f0]
  all_goals first | rfl | omega | (simp; done)
 ·clear f0 hG
  rintro k σ hk ⟨s, m, xs, lk, wk, rfl, f0, f2, o2, f4, o4, o4c2, f5, f6, mo0, mo1, mo2, mo3, hG⟩
  obtain ⟨g2, o2⟩ : ∃ g, m.objs (.tmp 2 0) = (g, .box [.v (i64 0), .v (i64 0), .v (.sl 2 true [])]) := ⟨_, Prod.ext rfl o2⟩
  rw [o2] at f2
  obtain ⟨g4c2, o4c2⟩ : ∃ g, m.objs (.cell 4 2) = (g, .arr xs.isEmpty 2 (xs.map linkA)) := ⟨_, Prod.ext rfl o4c2⟩
  rw [o4c2] at o4
  simp only at o4
  obtain ⟨g4, o4⟩ : ∃ g, m.objs (.tmp 4 0) = (g, .box [.v (i64 (rnV l w 1)), .v (i64 (IntKind.i64.wrap (rnV (rnL l w 1) (rnW l w 1) 8))), .own (.cell 4 2) g4c2 0 xs.length]) := ⟨_, Prod.ext rfl o4⟩
  rw [o4] at f4
  refine AW.seq ?_
  refine AW.sr (cfg := cfg) ?_
  iterate 4 (apply aops_step (by decide) rfl; · (intro K hK; simp (disch := first | omega | decide) only [go_sem, f0, f2, f4, f5, f6, o2, o4, o4c2]; exact hK _))
  apply aops_merge' (by decide) (by exact want_of (d := 20) rfl (by simp only [go_sem, f0, f2, f4, f5, f6, o2, o4, o4c2, opn_cond]; rfl))
  ·intro hc K hK
   simp (disch := first | omega | decide) only [go_sem, f0, f2, f4, f5, f6, o2, o4, o4c2, opn_cond, hc, if_true]
   exact hK _
  apply aops_merge' (by decide) (by exact want_of (d := 20) rfl (by simp (disch := first | omega | decide) only [go_sem, f0, f2, f4, f5, f6, o2, o4, o4c2, opn_cond]; rfl))
  ·intro hc K hK
   have hc2 := hc
   simp only [beq_iff_eq, decide_eq_true_eq, decide_eq_false_iff_not, Bool.or_eq_true, Bool.and_eq_true, Bool.or_eq_false_iff, Bool.and_eq_false_iff] at hc2
   simp (disch := first | omega | decide) only [go_sem, f0, f2, f4, f5, f6, o2, o4, o4c2, opn_cond, hc, if_true, act_call, List.map]
   apply mwp_call_g rfl rfl rfl
   ·intro Q hQ
    (simp (disch := first | omega | decide) only [go_sem, f0, f2, f4, f5, f6, o2, o4, o4c2, opn_cond, hc, if_true, peekL, reifyL_nil, reifyL_cons, reify_v]; (exact hQ))
   ·exact hG
   ·exact O.good_Wrong nil lk wk (by omega) mo2
   ·simp (disch := first | omega | decide) only [go_sem, f0, f2, f4, f5, f6, o2, o4, o4c2, opn_cond, hc, if_true]
    rw [mem_eta (by exact hG)]
    exact hK _
  apply aops_merge' (by decide) (by exact want_of (d := 20) rfl (by simp (disch := first | omega | decide) only [go_sem, f0, f2, f4, f5, f6, o2, o4, o4c2, opn_cond]; rfl))
  ·intro hc K hK
   simp (disch := first | omega | decide) only [go_sem, f0, f2, f4, f5, f6, o2, o4, o4c2, opn_cond, hc, if_true]
   exact hK _
  iterate 1 (apply aops_step (by decide) rfl; · (intro K hK; simp (disch := first | omega | decide) only [go_sem, f0, f2, f4, f5, f6, o2, o4, o4c2]; exact hK _))
  refine aops_nil ?_
  apply AW.cond
  ·(simp only [go_sem, f0, f2, f4, f5, f6, o2, o4, o4c2]; rfl)
  case ht =>
   intro hb
   try simp only [bo1, bo2, bo3, bo4, bo5, bo6] at hb
   have hbt24 := hb
   refine AW.skip ?_
   refine AW.seq ?_
   refine AW.block ?_
   obtain rfl : wk = false := by simpa using hb.2
   have v4 := rnV_range1 lk false
   have v5 := rnV_range4 (rnL lk false 1) (rnW lk false 1)
   have ll4 := rnL_len lk false 1
   have lz4 : nil = true → rnL lk false 1 = [] := fun h => rnL_nil (mo2 h) _ _
   have ll5 := rnL_len (rnL lk false 1) (rnW lk false 1) 4
   have lz5 : nil = true → rnL (rnL lk false 1) (rnW lk false 1) 4 = [] := fun h => rnL_nil (lz4 h) _ _
   refine AW.draw (cfg := cfg) (by kernel_rfl) (by kernel_rfl) (by kernel_rfl) ?_
   apply adraw_step rfl
   ·intro K hK
    simp (disch := first | omega | decide) only [go_sem, f0, f2, f4, f5, f6, o2, o4, o4c2, act_fieldAddr_t fo79_2, List.map]
    rw [mwp_fieldAddr_b (by simp only [go_sem, f0, f2, f4, f5, f6, o2, o4, o4c2]; rfl)]
    exact hK
   apply adraw_step rfl
   ·intro K hK
    simp (disch := first | omega | decide) only [go_sem, f0, f2, f4, f5, f6, o2, o4, o4c2, act_load_t ti77, List.map]
    rw [mwp_load_b1 (by simp only [go_sem, f0, f2, f4, f5, f6, o2, o4, o4c2]; rfl) (by rfl)]
    exact hK
   iterate 1 (apply adraw_step rfl; · (intro K hK; simp (disch := first | omega | decide) only [go_sem, f0, f2, f4, f5, f6, o2, o4, o4c2]; exact hK))
   apply adraw_step rfl
   ·intro K hK
    simp (disch := first | omega | decide) only [go_sem, f0, f2, f4, f5, f6, o2, o4, o4c2, act_call, List.map]
    apply mwp_call_g rfl rfl rfl
    ·intro Q hQ
     (simp (disch := first | omega | decide) only [go_sem, f0, f2, f4, f5, f6, o2, o4, o4c2, peekL, reifyL_nil, reifyL_cons, reify_v]; (exact hQ))
    ·exact hG
    ·exact O.good_NumR nil lk false (by omega) mo2 1
    ·simp (disch := first | omega | decide) only [go_sem, f0, f2, f4, f5, f6, o2, o4, o4c2]
     exact hK
   iterate 2 (apply adraw_step rfl; · (intro K hK; simp (disch := first | omega | decide) only [go_sem, f0, f2, f4, f5, f6, o2, o4, o4c2, act_convI u71 u3]; exact hK))
   apply adraw_step rfl
   ·intro K hK
    simp (disch := first | omega | decide) only [go_sem, f0, f2, f4, f5, f6, o2, o4, o4c2, act_call, List.map]
    apply mwp_call_g rfl rfl rfl
    ·intro Q hQ
     (simp (disch := first | omega | decide) only [go_sem, f0, f2, f4, f5, f6, o2, o4, o4c2, peekL, reifyL_nil, reifyL_cons, reify_v]; (exact hQ))
    ·rfl
    ·exact O.good_NumR nil (rnL lk false 1) (rnW lk false 1) (by omega) lz4 4
    ·simp (disch := first | omega | decide) only [go_sem, f0, f2, f4, f5, f6, o2, o4, o4c2]
     exact hK
   iterate 1 (apply adraw_step rfl; · (intro K hK; simp (disch := first | omega | decide) only [go_sem, f0, f2, f4, f5, f6, o2, o4, o4c2, act_convI u71 u3]; exact hK))
   apply adraw_step rfl
   ·intro K hK
    simp (disch := first | omega | decide) only [go_sem, f0, f2, f4, f5, f6, o2, o4, o4c2, act_build_t ti124 pl124, List.map]
    simp [-List.map_take, -List.map_drop, fillL, okOne, cellishAV, Value.oneCell', cellsL, cellsOf, setAt, M.bind, Mwp, mset_same, Obj.isArr, o2, o4, o4c2]
    exact hK
   apply adraw_step rfl
   ·intro K hK
    rw [act_bs el77 ti124]
    (simp [-List.map_take, -List.map_drop, -BitVec.toNat_ofInt, -BitVec.ofInt_natCast, -BitVec.toNat_setWidth, -BitVec.toNat_ushiftRight, -BitVec.toNat_umod, -BitVec.toNat_udiv, go_sem, elems_v, cellishAV, Value.oneCell', isAggAV, partsOf, TI.z, TI.mk1, f0, f2, f4, f5, f6, o2, o4, o4c2]; exact hK)
   apply adraw_step rfl
   ·intro K hK
    simp (disch := first | omega | decide) only [go_sem, f0, f2, f4, f5, f6, o2, o4, o4c2, List.map]
    apply mwp_append2 el77 ti124 u77
    case hpk => intro Q hQ; (rw [peek_own (by simp (disch := first | omega | decide) only [go_sem, f0, f2, f4, f5, f6, o2, o4, o4c2]; rfl)]; (try rw [sub_full (by rfl)]); exact hQ)
    case hs' => rfl
    case ho => simp (disch := first | omega | decide) only [go_sem, f0, f2, f4, f5, f6, o2, o4, o4c2]; rfl
    case hsz => rfl
    case hhi => (simp; done)
    case hb => (simp [sub, roomB]; omega)
    case hy => exact all_cells rfl
    case k => (try simp only [List.nil_append, ← List.map_append, Bool.false_and]); exact hK
   apply adraw_step rfl
   ·intro K hK
    simp (disch := first | omega | decide) only [go_sem, f0, f2, f4, f5, f6, o2, o4, o4c2, act_fieldAddr_t fo79_2, List.map]
    rw [mwp_fieldAddr_b (by simp (disch := first | omega | decide) only [go_sem, f0, f2, f4, f5, f6, o2, o4, o4c2]; rfl)]
    exact hK
   apply adraw_step0 rfl
   ·intro K hK
    simp (disch := first | omega | decide) only [go_sem, f0, f2, f4, f5, f6, o2, o4, o4c2, act_store_t ti77, List.map]
    rw [mwp_store_o (by simp (disch := first | omega | decide) only [go_sem, f0, f2, f4, f5, f6, o2, o4, o4c2]; rfl) (by simp (disch := first | omega | decide) only [go_sem, f0, f2, f4, f5, f6, o2, o4, o4c2]; rfl) (by decide) (by simp)]
    (simp [-List.map_take, -List.map_drop, aStore, cellsL, settleL, settle, M.bind, Mwp, freezeN, cellishAV, Value.oneCell', setAt, sub, mset_same, mset_ne, List.take_of_length_le, f0, f2, f4, f5, f6, o2, o4, o4c2])
    try simp only [setAt, cellsL, cellsOf_agg, cellsOf_base, List.map_cons, List.map_nil, List.set_cons_zero, List.set_cons_succ, Nat.reduceAdd, Nat.zero_add, hG]
    exact hK
   refine adraw_nil (by kernel_rfl) ?_
   refine AW.region (cfg := cfg) ?_
   iterate 3 (apply aops_step (by decide) rfl; · (intro K hK; simp (disch := first | omega | decide) only [go_sem, f0, f2, f4, f5, f6, o2, o4, o4c2]; exact hK _))
   refine aops_nil ?_
   refine ⟨_, _, xs ++ [⟨rnV lk false 1, rnV (rnL lk false 1) (rnW lk false 1) 4⟩], rnL (rnL lk false 1) (rnW lk false 1) 4, rnW (rnL lk false 1) (rnW lk false 1) 4, rfl, ?_, ?_, ?_, ?_, ?_, ?_, ?_, ?_, ?_, ?_, ?_, ?_, (by rfl)⟩ <;> try simp (disch := first | omega | decide) only [go_sem, f0, f2, f4, f5, f6, o2, o4, o4c2]
   all_goals first | rfl | exact rd_next mo0 | omega | (simp [linkA]; done) | (simp; omega)
  case hf =>
   intro hb
   try simp only [bo1, bo2, bo3, bo4, bo5, bo6] at hb
   have hbt24 := hb
   refine AW.exit ?_
   refine AW.seq ?_
   refine AW.seq ?_
   have z : rdP l w = (xs, lk, wk) := (by exact rd_stop mo0 (by simp at hb; rcases hb with h | h <;> omega) (by unfold hdN; omega))
   have zr : rdRaw l w = ⟨rnV l w 1, IntKind.i64.wrap (rnV (rnL l w 1) (rnW l w 1) 8), xs.isEmpty, xs⟩ := by simp [rdRaw, z]
   have zw : rdW l w = wk := by simp [rdW, z]
   have zl : rdR l w = lk := by simp [rdR, z]
   refine AW.region (cfg := cfg) ?_
   iterate 1 (apply aops_step (by decide) rfl; · (intro K hK; simp (disch := first | omega | decide) only [go_sem, f0, f2, f4, f5, f6, o2, o4, o4c2]; exact hK _))
   apply aops_step (by decide) rfl
   ·intro K hK
    simp (disch := first | omega | decide) only [go_sem, f0, f2, f4, f5, f6, o2, o4, o4c2, act_call, List.map]
    apply mwp_call_g rfl rfl rfl
    ·intro Q hQ
     (simp (disch := first | omega | decide) only [go_sem, f0, f2, f4, f5, f6, o2, o4, o4c2, peekL, reifyL_nil, reifyL_cons, reify_v]; (exact hQ))
    ·exact hG
    ·exact O.good_Wrong nil lk wk (by omega) mo2
    ·simp (disch := first | omega | decide) only [go_sem, f0, f2, f4, f5, f6, o2, o4, o4c2]
     exact hK _
   iterate 1 (apply aops_step (by decide) rfl; · (intro K hK; simp (disch := first | omega | decide) only [go_sem, f0, f2, f4, f5, f6, o2, o4, o4c2]; exact hK _))
   apply aops_merge' (by decide) (by exact want_of (d := 41) rfl (by simp only [go_sem, f0, f2, f4, f5, f6, o2, o4, o4c2, opn_cond]; rfl))
   ·intro hc K hK
    simp (disch := first | omega | decide) only [go_sem, f0, f2, f4, f5, f6, o2, o4, o4c2, opn_cond, hc, if_true, act_load_t ti79]
    rw [mwp_load_bs (by simp (disch := first | omega | decide) only [go_sem, f0, f2, f4, f5, f6, o2, o4, o4c2, opn_cond, hc, if_true]; rfl) (by simp [setAt])]
    try simp only [List.drop_zero, List.drop_succ_cons, List.take_succ_cons, List.take_zero]
    exact hK _
   apply aops_merge' (by decide) (by exact want_of (d := 41) rfl (by simp (disch := first | omega | decide) only [go_sem, f0, f2, f4, f5, f6, o2, o4, o4c2, opn_cond]; rfl))
   ·intro hc K hK
    have hc2 := hc
    simp only [beq_iff_eq, decide_eq_true_eq, decide_eq_false_iff_not, Bool.or_eq_true, Bool.and_eq_true, Bool.or_eq_false_iff, Bool.and_eq_false_iff] at hc2
    simp (disch := first | omega | decide) only [go_sem, f0, f2, f4, f5, f6, o2, o4, o4c2, opn_cond, hc, if_true, act_call, List.map]
    apply mwp_call_s rfl rfl rfl
    ·intro Q hQ
     (simp (disch := first | omega | decide) only [go_sem, f0, f2, f4, f5, f6, o2, o4, o4c2, opn_cond, hc, if_true, peekL, reifyL_nil, reifyL_cons, reify_v]; ((((rw [peek_own (by simp (disch := first | omega | decide) only [go_sem, f0, f2, f4, f5, f6, o2, o4, o4c2, peekL, reifyL_nil, reifyL_cons, reify_v]; rfl)]); (try rw [sub_full (by (simp only [List.length_map, List.length_replicate]; done))])); exact hQ)))
    ·exact good_Check _ _ _ _ (by omega)
    ·simp [-List.map_take, -List.map_drop, -List.map_append, -List.map_replicate, -List.reduceReplicate, noPtrL, noPtr, noPtrL_bsl, noPtrL_map, sub]
    ·rfl
    ·exact hK _
   apply aops_merge' (by decide) (by exact want_of (d := 41) rfl (by simp (disch := first | omega | decide) only [go_sem, f0, f2, f4, f5, f6, o2, o4, o4c2, opn_cond]; rfl))
   ·intro hc K hK
    simp (disch := first | omega | decide) only [go_sem, f0, f2, f4, f5, f6, o2, o4, o4c2, opn_cond, hc, if_true]
    exact hK _
   iterate 1 (apply aops_step (by decide) rfl; · (intro K hK; simp (disch := first | omega | decide) only [go_sem, f0, f2, f4, f5, f6, o2, o4, o4c2]; exact hK _))
   refine aops_nil ?_
   apply AW.cond
   ·(simp only [go_sem, f0, f2, f4, f5, f6, o2, o4, o4c2]; rfl)
   case ht =>
    intro hb
    try simp only [bo1, bo2, bo3, bo4, bo5, bo6] at hb
    have hbt45 := hb
    refine AW.seq ?_
    have zo : rdOK l w = false := (by rw [rdOK, zw, zr]; exact rd_no hb)
    refine AW.region (cfg := cfg) ?_
    apply aops_step (by decide) rfl
    ·intro K hK
     simp (disch := first | omega | decide) only [go_sem, f0, f2, f4, f5, f6, o2, o4, o4c2, act_build_t ti79 pl79, List.map]
     simp [-List.map_take, -List.map_drop, fillL, okOne, cellishAV, Value.oneCell', cellsL, cellsOf, setAt, M.bind, Mwp, mset_same, Obj.isArr, o2, o4, o4c2]
     exact hK _
    apply aops_step0 rfl
    ·intro K hK
     simp (disch := first | omega | decide) only [go_sem, f0, f2, f4, f5, f6, o2, o4, o4c2, act_store_t ti79, List.map]
     rw [mwp_store_c (by simp (disch := first | omega | decide) only [go_sem, f0, f2, f4, f5, f6, o2, o4, o4c2]; rfl) (by rfl) (by rfl) (by rfl) (by simp)]
     (simp [-List.map_take, -List.map_drop, aStore, cellsL, settleL, settle, M.bind, Mwp, freezeN, cellishAV, Value.oneCell', setAt, sub, mset_same, mset_ne, List.take_of_length_le, f0, f2, f4, f5, f6, o2, o4, o4c2])
     try simp only [setAt, cellsL, cellsOf_agg, cellsOf_base, List.map_cons, List.map_nil, List.set_cons_zero, List.set_cons_succ, Nat.reduceAdd, Nat.zero_add, hG]
     exact hK _
    iterate 1 (apply aops_step (by decide) rfl; · (intro K hK; simp (disch := first | omega | decide) only [go_sem, f0, f2, f4, f5, f6, o2, o4, o4c2]; exact hK _))
    refine aops_nil ?_
    refine AW.ret ?_
    refine ⟨.inr rfl, ?_⟩
    refine leaves_mwp2 (rs := [.cell 2 79, .tmp 3]) rfl ?_
    simp (config := {failIfUnchanged := false}) [giveL, srcOne, rehome, freezeN, sub, ti79, upd, opn, aLoad, loadL, giveOne, reify, reifyL, readL, readOne, Mwp, M.bind, Mem.set, setAt, cellsL, hG, f0, f2, f4, f5, f6, o2, o4, o4c2]
    all_goals (rw [rdL, zo, zl, zw]; exact ⟨⟨rfl, rfl⟩, rfl, rfl⟩)
   case hf =>
    intro hb
    try simp only [bo1, bo2, bo3, bo4, bo5, bo6] at hb
    have hbt45 := hb
    refine AW.skip ?_
    refine AW.seq ?_
    have zo : rdOK l w = true := (by rw [rdOK, zw, zr]; exact rd_yes hb)
    refine AW.region (cfg := cfg) ?_
    apply aops_step (by decide) rfl
    ·intro K hK
     simp (disch := first | omega | decide) only [go_sem, f0, f2, f4, f5, f6, o2, o4, o4c2, act_load_t ti79, List.map]
     rw [mwp_load_bs (by simp (disch := first | omega | decide) only [go_sem, f0, f2, f4, f5, f6, o2, o4, o4c2]; rfl) (by simp [setAt])]
     try simp only [List.drop_zero, List.drop_succ_cons, List.take_succ_cons, List.take_zero]
     exact hK _
    apply aops_step0 rfl
    ·intro K hK
     simp (disch := first | omega | decide) only [go_sem, f0, f2, f4, f5, f6, o2, o4, o4c2, act_store_t ti79, List.map]
     skip
     (simp [-List.map_take, -List.map_drop, aStore, cellsL, settleL, settle, M.bind, Mwp, freezeN, cellishAV, Value.oneCell', setAt, sub, mset_same, mset_ne, List.take_of_length_le, f0, f2, f4, f5, f6, o2, o4, o4c2])
     try simp only [setAt, cellsL, cellsOf_agg, cellsOf_base, List.map_cons, List.map_nil, List.set_cons_zero, List.set_cons_succ, Nat.reduceAdd, Nat.zero_add, hG]
     exact hK _
    iterate 1 (apply aops_step (by decide) rfl; · (intro K hK; simp (disch := first | omega | decide) only [go_sem, f0, f2, f4, f5, f6, o2, o4, o4c2]; exact hK _))
    refine aops_nil ?_
    refine AW.ret ?_
    refine ⟨.inr rfl, ?_⟩
    refine leaves_mwp2 (rs := [.cell 2 79, .tmp 3]) rfl ?_
    simp (config := {failIfUnchanged := false}) [giveL, srcOne, rehome, freezeN, sub, ti79, upd, opn, aLoad, loadL, giveOne, reify, reifyL, readL, readOne, Mwp, M.bind, Mem.set, setAt, cellsL, hG, f0, f2, f4, f5, f6, o2, o4, o4c2]
    all_goals (rw [rdL, zo, zl, zw, if_pos rfl, zr]; exact ⟨⟨rfl, rfl⟩, rfl, rfl⟩)
 ·clear f0 hG
  rintro σ ⟨s, m, xs, lk, wk, rfl, f0, f2, o2, f4, o4, o4c2, f5, f6, mo0, mo1, mo2, mo3, hG⟩
  obtain ⟨g2, o2⟩ : ∃ g, m.objs (.tmp 2 0) = (g, .box [.v (i64 0), .v (i64 0), .v (.sl 2 true [])]) := ⟨_, Prod.ext rfl o2⟩
  rw [o2] at f2
  obtain ⟨g4c2, o4c2⟩ : ∃ g, m.objs (.cell 4 2) = (g, .arr xs.isEmpty 2 (xs.map linkA)) := ⟨_, Prod.ext rfl o4c2⟩
  rw [o4c2] at o4
  simp only at o4
  obtain ⟨g4, o4⟩ : ∃ g, m.objs (.tmp 4 0) = (g, .box [.v (i64 (rnV l w 1)), .v (i64 (IntKind.i64.wrap (rnV (rnL l w 1) (rnW l w 1) 8))), .own (.cell 4 2) g4c2 0 xs.length]) := ⟨_, Prod.ext rfl o4⟩
  rw [o4] at f4
  refine AW.seq ?_
  refine AW.sr (cfg := cfg) ?_
  iterate 4 (apply aops_step (by decide) rfl; · (intro K hK; simp (disch := first | omega | decide) only [go_sem, f0, f2, f4, f5, f6, o2, o4, o4c2]; exact hK _))
  apply aops_merge' (by decide) (by exact want_of (d := 20) rfl (by simp only [go_sem, f0, f2, f4, f5, f6, o2, o4, o4c2, opn_cond]; rfl))
  ·intro hc K hK
   simp (disch := first | omega | decide) only [go_sem, f0, f2, f4, f5, f6, o2, o4, o4c2, opn_cond, hc, if_true]
   exact hK _
  apply aops_merge' (by decide) (by exact want_of (d := 20) rfl (by simp (disch := first | omega | decide) only [go_sem, f0, f2, f4, f5, f6, o2, o4, o4c2, opn_cond]; rfl))
  ·intro hc K hK
   have hc2 := hc
   simp only [beq_iff_eq, decide_eq_true_eq, decide_eq_false_iff_not, Bool.or_eq_true, Bool.and_eq_true, Bool.or_eq_false_iff, Bool.and_eq_false_iff] at hc2
   simp (disch := first | omega | decide) only [go_sem, f0, f2, f4, f5, f6, o2, o4, o4c2, opn_cond, hc, if_true, act_call, List.map]
   apply mwp_call_g rfl rfl rfl
   ·intro Q hQ
    (simp (disch := first | omega | decide) only [go_sem, f0, f2, f4, f5, f6, o2, o4, o4c2, opn_cond, hc, if_true, peekL, reifyL_nil, reifyL_cons, reify_v]; (exact hQ))
   ·exact hG
   ·exact O.good_Wrong nil lk wk (by omega) mo2
   ·simp (disch := first | omega | decide) only [go_sem, f0, f2, f4, f5, f6, o2, o4, o4c2, opn_cond, hc, if_true]
    rw [mem_eta (by exact hG)]
    exact hK _
  apply aops_merge' (by decide) (by exact want_of (d := 20) rfl (by simp (disch := first | omega | decide) only [go_sem, f0, f2, f4, f5, f6, o2, o4, o4c2, opn_cond]; rfl))
  ·intro hc K hK
   simp (disch := first | omega | decide) only [go_sem, f0, f2, f4, f5, f6, o2, o4, o4c2, opn_cond, hc, if_true]
   exact hK _
  iterate 1 (apply aops_step (by decide) rfl; · (intro K hK; simp (disch := first | omega | decide) only [go_sem, f0, f2, f4, f5, f6, o2, o4, o4c2]; exact hK _))
  refine aops_nil ?_
  apply AW.cond
  ·(simp only [go_sem, f0, f2, f4, f5, f6, o2, o4, o4c2]; rfl)
  case ht => intro hb; (simp at hb; omega)
  case hf =>
  intro hb
  have hbt24 := hb
  refine AW.exit ?_
  refine AW.seq ?_
  refine AW.seq ?_
  have z : rdP l w = (xs, lk, wk) := (by exact mo0)
  have zr : rdRaw l w = ⟨rnV l w 1, IntKind.i64.wrap (rnV (rnL l w 1) (rnW l w 1) 8), xs.isEmpty, xs⟩ := by simp [rdRaw, z]
  have zw : rdW l w = wk := by simp [rdW, z]
  have zl : rdR l w = lk := by simp [rdR, z]
  refine AW.region (cfg := cfg) ?_
  iterate 1 (apply aops_step (by decide) rfl; · (intro K hK; simp (disch := first | omega | decide) only [go_sem, f0, f2, f4, f5, f6, o2, o4, o4c2]; exact hK _))
  apply aops_step (by decide) rfl
  ·intro K hK
   simp (disch := first | omega | decide) only [go_sem, f0, f2, f4, f5, f6, o2, o4, o4c2, act_call, List.map]
   apply mwp_call_g rfl rfl rfl
   ·intro Q hQ
    (simp (disch := first | omega | decide) only [go_sem, f0, f2, f4, f5, f6, o2, o4, o4c2, peekL, reifyL_nil, reifyL_cons, reify_v]; (exact hQ))
   ·exact hG
   ·exact O.good_Wrong nil lk wk (by omega) mo2
   ·simp (disch := first | omega | decide) only [go_sem, f0, f2, f4, f5, f6, o2, o4, o4c2]
    exact hK _
  iterate 1 (apply aops_step (by decide) rfl; · (intro K hK; simp (disch := first | omega | decide) only [go_sem, f0, f2, f4, f5, f6, o2, o4, o4c2]; exact hK _))
  apply aops_merge' (by decide) (by exact want_of (d := 41) rfl (by simp only [go_sem, f0, f2, f4, f5, f6, o2, o4, o4c2, opn_cond]; rfl))
  ·intro hc K hK
   simp (disch := first | omega | decide) only [go_sem, f0, f2, f4, f5, f6, o2, o4, o4c2, opn_cond, hc, if_true, act_load_t ti79]
   rw [mwp_load_bs (by simp (disch := first | omega | decide) only [go_sem, f0, f2, f4, f5, f6, o2, o4, o4c2, opn_cond, hc, if_true]; rfl) (by simp [setAt])]
   try simp only [List.drop_zero, List.drop_succ_cons, List.take_succ_cons, List.take_zero]
   exact hK _
  apply aops_merge' (by decide) (by exact want_of (d := 41) rfl (by simp (disch := first | omega | decide) only [go_sem, f0, f2, f4, f5, f6, o2, o4, o4c2, opn_cond]; rfl))
  ·intro hc K hK
   have hc2 := hc
   simp only [beq_iff_eq, decide_eq_true_eq, decide_eq_false_iff_not, Bool.or_eq_true, Bool.and_eq_true, Bool.or_eq_false_iff, Bool.and_eq_false_iff] at hc2
   simp (disch := first | omega | decide) only [go_sem, f0, f2, f4, f5, f6, o2, o4, o4c2, opn_cond, hc, if_true, act_call, List.map]
   apply mwp_call_s rfl rfl rfl
   ·intro Q hQ
    (simp (disch := first | omega | decide) only [go_sem, f0, f2, f4, f5, f6, o2, o4, o4c2, opn_cond, hc, if_true, peekL, reifyL_nil, reifyL_cons, reify_v]; ((((rw [peek_own (by simp (disch := first | omega | decide) only [go_sem, f0, f2, f4, f5, f6, o2, o4, o4c2, peekL, reifyL_nil, reifyL_cons, reify_v]; rfl)]); (try rw [sub_full (by (simp only [List.length_map, List.length_replicate]; done))])); exact hQ)))
   ·exact good_Check _ _ _ _ (by omega)
   ·simp [-List.map_take, -List.map_drop, -List.map_append, -List.map_replicate, -List.reduceReplicate, noPtrL, noPtr, noPtrL_bsl, noPtrL_map, sub]
   ·rfl
   ·exact hK _
  apply aops_merge' (by decide) (by exact want_of (d := 41) rfl (by simp (disch := first | omega | decide) only [go_sem, f0, f2, f4, f5, f6, o2, o4, o4c2, opn_cond]; rfl))
  ·intro hc K hK
   simp (disch := first | omega | decide) only [go_sem, f0, f2, f4, f5, f6, o2, o4, o4c2, opn_cond, hc, if_true]
   exact hK _
  iterate 1 (apply aops_step (by decide) rfl; · (intro K hK; simp (disch := first | omega | decide) only [go_sem, f0, f2, f4, f5, f6, o2, o4, o4c2]; exact hK _))
  refine aops_nil ?_
  apply AW.cond
  ·(simp only [go_sem, f0, f2, f4, f5, f6, o2, o4, o4c2]; rfl)
  case ht =>
   intro hb
   try simp only [bo1, bo2, bo3, bo4, bo5, bo6] at hb
   have hbt45 := hb
   refine AW.seq ?_
   have zo : rdOK l w = false := (by rw [rdOK, zw, zr]; exact rd_no hb)
   refine AW.region (cfg := cfg) ?_
   apply aops_step (by decide) rfl
   ·intro K hK
    simp (disch := first | omega | decide) only [go_sem, f0, f2, f4, f5, f6, o2, o4, o4c2, act_build_t ti79 pl79, List.map]
    simp [-List.map_take, -List.map_drop, fillL, okOne, cellishAV, Value.oneCell', cellsL, cellsOf, setAt, M.bind, Mwp, mset_same, Obj.isArr, o2, o4, o4c2]
    exact hK _
   apply aops_step0 rfl
   ·intro K hK
    simp (disch := first | omega | decide) only [go_sem, f0, f2, f4, f5, f6, o2, o4, o4c2, act_store_t ti79, List.map]
    rw [mwp_store_c (by simp (disch := first | omega | decide) only [go_sem, f0, f2, f4, f5, f6, o2, o4, o4c2]; rfl) (by rfl) (by rfl) (by rfl) (by simp)]
    (simp [-List.map_take, -List.map_drop, aStore, cellsL, settleL, settle, M.bind, Mwp, freezeN, cellishAV, Value.oneCell', setAt, sub, mset_same, mset_ne, List.take_of_length_le, f0, f2, f4, f5, f6, o2, o4, o4c2])
    try simp only [setAt, cellsL, cellsOf_agg, cellsOf_base, List.map_cons, List.map_nil, List.set_cons_zero, List.set_cons_succ, Nat.reduceAdd, Nat.zero_add, hG]
    exact hK _
   iterate 1 (apply aops_step (by decide) rfl; · (intro K hK; simp (disch := first | omega | decide) only [go_sem, f0, f2, f4, f5, f6, o2, o4, o4c2]; exact hK _))
   refine aops_nil ?_
   refine AW.ret ?_
   refine ⟨.inr rfl, ?_⟩
   refine leaves_mwp2 (rs := [.cell 2 79, .tmp 3]) rfl ?_
   simp (config := {failIfUnchanged := false}) [giveL, srcOne, rehome, freezeN, sub, ti79, upd, opn, aLoad, loadL, giveOne, reify, reifyL, readL, readOne, Mwp, M.bind, Mem.set, setAt, cellsL, hG, f0, f2, f4, f5, f6, o2, o4, o4c2]
   all_goals (rw [rdL, zo, zl, zw]; exact ⟨⟨rfl, rfl⟩, rfl, rfl⟩)
  case hf =>
   intro hb
   try simp only [bo1, bo2, bo3, bo4, bo5, bo6] at hb
   have hbt45 := hb
   refine AW.skip ?_
   refine AW.seq ?_
   have zo : rdOK l w = true := (by rw [rdOK, zw, zr]; exact rd_yes hb)
   refine AW.region (cfg := cfg) ?_
   apply aops_step (by decide) rfl
   ·intro K hK
    simp (disch := first | omega | decide) only [go_sem, f0, f2, f4, f5, f6, o2, o4, o4c2, act_load_t ti79, List.map]
    rw [mwp_load_bs (by simp (disch := first | omega | decide) only [go_sem, f0, f2, f4, f5, f6, o2, o4, o4c2]; rfl) (by simp [setAt])]
    try simp only [List.drop_zero, List.drop_succ_cons, List.take_succ_cons, List.take_zero]
    exact hK _
   apply aops_step0 rfl
   ·intro K hK
    simp (disch := first | omega | decide) only [go_sem, f0, f2, f4, f5, f6, o2, o4, o4c2, act_store_t ti79, List.map]
    skip
    (simp [-List.map_take, -List.map_drop, aStore, cellsL, settleL, settle, M.bind, Mwp, freezeN, cellishAV, Value.oneCell', setAt, sub, mset_same, mset_ne, List.take_of_length_le, f0, f2, f4, f5, f6, o2, o4, o4c2])
    try simp only [setAt, cellsL, cellsOf_agg, cellsOf_base, List.map_cons, List.map_nil, List.set_cons_zero, List.set_cons_succ, Nat.reduceAdd, Nat.zero_add, hG]
    exact hK _
   iterate 1 (apply aops_step (by decide) rfl; · (intro K hK; simp (disch := first | omega | decide) only [go_sem, f0, f2, f4, f5, f6, o2, o4, o4c2]; exact hK _))
   refine aops_nil ?_
   refine AW.ret ?_
   refine ⟨.inr rfl, ?_⟩
   refine leaves_mwp2 (rs := [.cell 2 79, .tmp 3]) rfl ?_
   simp (config := {failIfUnchanged := false}) [giveL, srcOne, rehome, freezeN, sub, ti79, upd, opn, aLoad, loadL, giveOne, reify, reifyL, readL, readOne, Mwp, M.bind, Mem.set, setAt, cellsL, hG, f0, f2, f4, f5, f6, o2, o4, o4c2]
   all_goals (rw [rdL, zo, zl, zw, if_pos rfl, zr]; exact ⟨⟨rfl, rfl⟩, rfl, rfl⟩)
end Go.Vai.L
