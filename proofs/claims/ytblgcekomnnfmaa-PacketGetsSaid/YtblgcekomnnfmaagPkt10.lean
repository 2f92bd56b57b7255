import Derived.Test.YtblgcekomnnfmaagPkt9
namespace Go.Vai.P
open Go.Proofs Go.Vai Go.Vai.G Go.Vai.L Go.Vai.O Go.Vai.U Go.Vai.Z
set_option linter.unusedSimpArgs false
set_option linter.unusedVariables false
set_option maxHeartbeats 4000000
set_option maxRecDepth 100000
theorem at1_get {l : List (BitVec 8)} {k : Nat} (h : k < l.length) : (((l[k]'h).toNat : Nat) : Int) = at1 l k := by rw [at1, List.getD_eq_getElem?_getD, List.getElem?_eq_getElem h]; rfl
theorem ps_len {p : Pkt} (h : pktOK p = true) : (pktS p).length ≤ 2004 := by
  have := pktB_len h
  rw [(ps_ok h).1, sealS_len]; omega
theorem good_refGetK (nil : Bool) (l : List (BitVec 8)) (hl : l.length ≤ 140737488350000) : Good Try.prog 11 [(.sl 1 nil (bsl l), false)] [] [(pktA ((rfP l).getD pkt0), false), (.b (rfP l).isSome, false)] [] := by
 refine good_of_body4 148 Try.func11 rfl rfl rfl (by simp) (by simp) (by simp [noPtrL, noPtr]) (by simp [noPtrL, noPtr]) ?_
 intro s m ha hr hv hG
 have f0 : s 0 = .v (.sl 1 nil (bsl l)) := ha 0 _ rfl
 clear ha
 refine AW.sr (cfg := cfg) ?_
 apply aops_step (by decide) rfl
 ·intro K hK
  simp (disch := first | omega | decide) only [go_sem, f0, act_alloc_t ti28, List.map, at1_get, Int.toNat_zero, Int.toNat_one, Int.reduceToNat, Bool.not_true, Bool.not_false]
  exact hK _
 iterate 1 (apply aops_step (by decide) rfl; · (intro K hK; simp (disch := first | omega | decide) only [go_sem, f0, at1_get, Int.toNat_zero, Int.toNat_one, Int.reduceToNat, Bool.not_true, Bool.not_false]; exact hK _))
 refine aops_nil ?_
 refine AW.seq ?_
 refine AW.sr (cfg := cfg) ?_
 iterate 3 (apply aops_step (by decide) rfl; · (intro K hK; simp (disch := first | omega | decide) only [go_sem, f0, List.map, List.length_map, aops_len u22, at1_get, Int.toNat_zero, Int.toNat_one, Int.reduceToNat, Bool.not_true, Bool.not_false]; exact hK _))
 refine aops_nil ?_
 apply AW.cond
 ·(simp only [go_sem, f0, at1_get, Int.toNat_zero, Int.toNat_one, Int.reduceToNat, Bool.not_true, Bool.not_false]; rfl)
 case ht =>
  intro hb
  try simp only [bo1, bo2, bo3, bo4, bo5, bo6] at hb
  have hbt12 := hb
  refine AW.sr (cfg := cfg) ?_
  apply aops_step (by decide) rfl
  ·intro K hK
   simp (disch := first | omega | decide) only [go_sem, f0, act_build_t ti28 pl28, List.map, at1_get, Int.toNat_zero, Int.toNat_one, Int.reduceToNat, Bool.not_true, Bool.not_false]
   simp [-List.map_take, -List.map_drop, fillL, okOne, cellishAV, Value.oneCell', cellsL, cellsOf, setAt, M.bind, Mwp, mset_same, Obj.isArr]
   exact hK _
  apply aops_step0 rfl
  ·intro K hK
   simp (disch := first | omega | decide) only [go_sem, f0, act_store_t ti28, List.map, at1_get, Int.toNat_zero, Int.toNat_one, Int.reduceToNat, Bool.not_true, Bool.not_false]
   rw [mwp_store_c (by simp (disch := first | omega | decide) only [go_sem, f0, at1_get, Int.toNat_zero, Int.toNat_one, Int.reduceToNat, Bool.not_true, Bool.not_false]; rfl) (by rfl) (by rfl) (by rfl) (by simp)]
   (simp [-List.map_take, -List.map_drop, aStore, cellsL, settleL, settle, M.bind, Mwp, freezeN, cellishAV, Value.oneCell', setAt, sub, mset_same, mset_ne, List.take_of_length_le, f0])
   try simp only [setAt, cellsL, cellsOf_agg, cellsOf_base, List.map_cons, List.map_nil, List.set_cons_zero, List.set_cons_succ, Nat.reduceAdd, Nat.zero_add, hG]
   exact hK _
  iterate 1 (apply aops_step (by decide) rfl; · (intro K hK; simp (disch := first | omega | decide) only [go_sem, f0, at1_get, Int.toNat_zero, Int.toNat_one, Int.reduceToNat, Bool.not_true, Bool.not_false]; exact hK _))
  refine aops_nil ?_
  refine AW.ret ?_
  refine ⟨.inr rfl, ?_⟩
  apply Exists.intro
  (have z := rg_0 (l := l) (by assumption))
  rw [z]
  refine leaves_mwp2 (rs := [.cell 2 28, .tmp 3]) rfl ?_; simp (config := {failIfUnchanged := false}) [giveL, srcOne, rehome, freezeN, sub, ti28, upd, opn, aLoad, loadL, giveOne, reify, reifyL, readL, readOne, Mwp, M.bind, Mem.set, setAt, cellsL, hG, f0]
  exact ⟨rfl, rfl⟩
 case hf =>
  intro hb
  try simp only [bo1, bo2, bo3, bo4, bo5, bo6] at hb
  have hbt12 := hb
  refine AW.skip ?_
  refine AW.seq ?_
  have a0 := at1_rg l 0
  have a1 := at1_rg l 1
  have a6 := at1_rg l 6
  have a11 := at1_rg l 11
  have a15 := at1_rg l 15
  refine AW.draw (cfg := cfg) (by kernel_rfl) (by kernel_rfl) (by kernel_rfl) ?_
  iterate 1 (apply adraw_step rfl; · (intro K hK; simp (disch := first | omega | decide) only [go_sem, f0, at1_get, Int.toNat_zero, Int.toNat_one, Int.reduceToNat, Bool.not_true, Bool.not_false]; exact hK))
  apply adraw_step rfl
  ·intro K hK
   simp (disch := first | omega | decide) only [go_sem, f0, act_indexAddr_s u22 ti5, List.map, at1_get, Int.toNat_zero, Int.toNat_one, Int.reduceToNat, Bool.not_true, Bool.not_false]
   skip
   exact hK
  apply adraw_step rfl
  ·intro K hK
   simp (disch := first | omega | decide) only [go_sem, f0, act_load_t ti5, List.map, at1_get, Int.toNat_zero, Int.toNat_one, Int.reduceToNat, Bool.not_true, Bool.not_false]
   skip
   exact hK
  iterate 2 (apply adraw_step rfl; · (intro K hK; simp (disch := first | omega | decide) only [go_sem, f0, act_convI u5 u3, at1_get, Int.toNat_zero, Int.toNat_one, Int.reduceToNat, Bool.not_true, Bool.not_false]; exact hK))
  apply adraw_step rfl
  ·intro K hK
   simp (disch := first | omega | decide) only [go_sem, f0, act_indexAddr_s u22 ti5, List.map, at1_get, Int.toNat_zero, Int.toNat_one, Int.reduceToNat, Bool.not_true, Bool.not_false]
   skip
   exact hK
  apply adraw_step rfl
  ·intro K hK
   simp (disch := first | omega | decide) only [go_sem, f0, act_load_t ti5, List.map, at1_get, Int.toNat_zero, Int.toNat_one, Int.reduceToNat, Bool.not_true, Bool.not_false]
   skip
   exact hK
  iterate 2 (apply adraw_step rfl; · (intro K hK; simp (disch := first | omega | decide) only [go_sem, f0, act_convI u5 u3, at1_get, Int.toNat_zero, Int.toNat_one, Int.reduceToNat, Bool.not_true, Bool.not_false]; exact hK))
  apply adraw_step rfl
  ·intro K hK
   simp (disch := first | omega | decide) only [go_sem, f0, act_call, List.map, at1_get, Int.toNat_zero, Int.toNat_one, Int.reduceToNat, Bool.not_true, Bool.not_false]
   apply mwp_call_s rfl rfl rfl
   ·intro Q hQ
    (simp (disch := first | omega | decide) only [go_sem, f0, peekL, reifyL_nil, reifyL_cons, reify_v, at1_get, Int.toNat_zero, Int.toNat_one, Int.reduceToNat, Bool.not_true, Bool.not_false]; (exact hQ))
   ·exact good_num4 nil l 2 (by omega) (by omega)
   ·simp [-List.map_take, -List.map_drop, -List.map_append, -List.map_replicate, -List.reduceReplicate, noPtrL, noPtr, noPtrL_bsl, noPtrL_map, sub]
   ·rfl
   ·exact hK
  iterate 1 (apply adraw_step rfl; · (intro K hK; simp (disch := first | omega | decide) only [go_sem, f0, at1_get, Int.toNat_zero, Int.toNat_one, Int.reduceToNat, Bool.not_true, Bool.not_false]; exact hK))
  apply adraw_step rfl
  ·intro K hK
   simp (disch := first | omega | decide) only [go_sem, f0, act_indexAddr_s u22 ti5, List.map, at1_get, Int.toNat_zero, Int.toNat_one, Int.reduceToNat, Bool.not_true, Bool.not_false]
   skip
   exact hK
  apply adraw_step rfl
  ·intro K hK
   simp (disch := first | omega | decide) only [go_sem, f0, act_load_t ti5, List.map, at1_get, Int.toNat_zero, Int.toNat_one, Int.reduceToNat, Bool.not_true, Bool.not_false]
   skip
   exact hK
  iterate 2 (apply adraw_step rfl; · (intro K hK; simp (disch := first | omega | decide) only [go_sem, f0, act_convI u5 u3, at1_get, Int.toNat_zero, Int.toNat_one, Int.reduceToNat, Bool.not_true, Bool.not_false]; exact hK))
  apply adraw_step rfl
  ·intro K hK
   simp (disch := first | omega | decide) only [go_sem, f0, act_call, List.map, at1_get, Int.toNat_zero, Int.toNat_one, Int.reduceToNat, Bool.not_true, Bool.not_false]
   apply mwp_call_s rfl rfl rfl
   ·intro Q hQ
    (simp (disch := first | omega | decide) only [go_sem, f0, peekL, reifyL_nil, reifyL_cons, reify_v, at1_get, Int.toNat_zero, Int.toNat_one, Int.reduceToNat, Bool.not_true, Bool.not_false]; (exact hQ))
   ·exact good_num4 nil l 7 (by omega) (by omega)
   ·simp [-List.map_take, -List.map_drop, -List.map_append, -List.map_replicate, -List.reduceReplicate, noPtrL, noPtr, noPtrL_bsl, noPtrL_map, sub]
   ·rfl
   ·exact hK
  apply adraw_step rfl
  ·intro K hK
   simp (disch := first | omega | decide) only [go_sem, f0, act_build_t ti28 pl28, List.map, at1_get, Int.toNat_zero, Int.toNat_one, Int.reduceToNat, Bool.not_true, Bool.not_false]
   simp [-List.map_take, -List.map_drop, fillL, okOne, cellishAV, Value.oneCell', cellsL, cellsOf, setAt, M.bind, Mwp, mset_same, Obj.isArr]
   exact hK
  apply adraw_step rfl
  ·intro K hK
   simp (disch := first | omega | decide) only [go_sem, f0, act_alloc_t ti28, List.map, at1_get, Int.toNat_zero, Int.toNat_one, Int.reduceToNat, Bool.not_true, Bool.not_false]
   exact hK
  apply adraw_step0 rfl
  ·intro K hK
   simp (disch := first | omega | decide) only [go_sem, f0, act_store_t ti28, List.map, at1_get, Int.toNat_zero, Int.toNat_one, Int.reduceToNat, Bool.not_true, Bool.not_false]
   rw [mwp_store_c (by simp (disch := first | omega | decide) only [go_sem, f0, at1_get, Int.toNat_zero, Int.toNat_one, Int.reduceToNat, Bool.not_true, Bool.not_false]; rfl) (by rfl) (by rfl) (by rfl) (by simp)]
   (simp [-List.map_take, -List.map_drop, aStore, cellsL, settleL, settle, M.bind, Mwp, freezeN, cellishAV, Value.oneCell', setAt, sub, mset_same, mset_ne, List.take_of_length_le, f0])
   try simp only [setAt, cellsL, cellsOf_agg, cellsOf_base, List.map_cons, List.map_nil, List.set_cons_zero, List.set_cons_succ, Nat.reduceAdd, Nat.zero_add, hG]
   exact hK
  refine adraw_nil (by kernel_rfl) ?_
  refine AW.sr (cfg := cfg) ?_
  iterate 1 (apply aops_step (by decide) rfl; · (intro K hK; simp (disch := first | omega | decide) only [go_sem, f0, at1_get, Int.toNat_zero, Int.toNat_one, Int.reduceToNat, Bool.not_true, Bool.not_false]; exact hK _))
  refine aops_nil ?_
  refine AW.join (fun σ => ∃ s m, σ = ⟨148, s, m⟩ ∧ s 0 = .v (.sl 1 nil (bsl l)) ∧ s 2 = .lptr (.tmp 2 0) (m.objs (.tmp 2 0)).1 0 ∧ (m.objs (.tmp 2 0)).2 = .box [.v (i64 0), .v (i64 0), .v (i64 0), .v (i64 0), .v (i64 0), .v (i64 0), .v (i64 0), .v (.sl 2 true []), .v (.sl 2 true []), .v (.sl 3 true [])] ∧ s 4 = .lptr (.tmp 4 0) (m.objs (.tmp 4 0)).1 0 ∧ (m.objs (.tmp 4 0)).2 = .box [.v (i64 (at1 l 0)), .v (i64 (at1 l 1)), .v (i64 (rV l 2 false 4)), .v (i64 (at1 l 6)), .v (i64 (rV l 7 false 4)), .v (i64 (rEp l)), .v (i64 0), .v (.sl 2 true []), .v (.sl 2 true []), .v (.sl 3 true [])] ∧ s 5 = .v (i64 ((rA0 l : Int) - 1)) ∧ (∀ i, (m.objs (.res i)).2 = .dead) ∧ m.G = []) ?_ ?_
  ·skip
   refine AW.sr (cfg := cfg) ?_
   refine aops_fl (by decide) (by decide) fo28_0 ti3 (by simp only [go_sem, f0, at1_get, Int.toNat_zero, Int.toNat_one, Int.reduceToNat, Bool.not_true, Bool.not_false]; rfl) (by simp only [go_sem, f0, at1_get, Int.toNat_zero, Int.toNat_one, Int.reduceToNat, Bool.not_true, Bool.not_false]; rfl) (by rfl) ?_
   iterate 2 (apply aops_step (by decide) rfl; · (intro K hK; simp (disch := first | omega | decide) only [go_sem, f0, at1_get, Int.toNat_zero, Int.toNat_one, Int.reduceToNat, Bool.not_true, Bool.not_false]; exact hK _))
   refine aops_flm (dg := 34) (by decide) (by decide) (by decide) fo28_0 ti3 rfl (by simp only [go_sem, f0, at1_get, Int.toNat_zero, Int.toNat_one, Int.reduceToNat, Bool.not_true, Bool.not_false]; rfl) (by simp only [go_sem, f0, at1_get, Int.toNat_zero, Int.toNat_one, Int.reduceToNat, Bool.not_true, Bool.not_false]; rfl) (by simp only [go_sem, f0, at1_get, Int.toNat_zero, Int.toNat_one, Int.reduceToNat, Bool.not_true, Bool.not_false]; rfl) (by rfl) ?_
   apply aops_merge' (by decide) (by exact want_of (d := 34) rfl (by simp (disch := first | omega | decide) only [go_sem, f0, opn_cond, at1_get, Int.toNat_zero, Int.toNat_one, Int.reduceToNat, Bool.not_true, Bool.not_false]; rfl))
   ·intro hc K hK
    simp (disch := first | omega | decide) only [go_sem, f0, opn_cond, hc, if_true, at1_get, Int.toNat_zero, Int.toNat_one, Int.reduceToNat, Bool.not_true, Bool.not_false]
    exact hK _
   iterate 1 (apply aops_step (by decide) rfl; · (intro K hK; simp (disch := first | omega | decide) only [go_sem, f0, at1_get, Int.toNat_zero, Int.toNat_one, Int.reduceToNat, Bool.not_true, Bool.not_false]; exact hK _))
   refine aops_nil ?_
   apply AW.cond
   ·(simp only [go_sem, f0, at1_get, Int.toNat_zero, Int.toNat_one, Int.reduceToNat, Bool.not_true, Bool.not_false]; rfl)
   case ht =>
    intro hb
    try simp only [bo1, bo2, bo3, bo4, bo5, bo6] at hb
    have hbt38 := hb
    refine AW.sr (cfg := cfg) ?_
    iterate 1 (apply aops_step (by decide) rfl; · (intro K hK; simp (disch := first | omega | decide) only [go_sem, f0, at1_get, Int.toNat_zero, Int.toNat_one, Int.reduceToNat, Bool.not_true, Bool.not_false]; exact hK _))
    apply aops_step (by decide) rfl
    ·intro K hK
     simp (disch := first | omega | decide) only [go_sem, f0, act_call, List.map, at1_get, Int.toNat_zero, Int.toNat_one, Int.reduceToNat, Bool.not_true, Bool.not_false]
     apply mwp_call_s rfl rfl rfl
     ·intro Q hQ
      (simp (disch := first | omega | decide) only [go_sem, f0, peekL, reifyL_nil, reifyL_cons, reify_v, at1_get, Int.toNat_zero, Int.toNat_one, Int.reduceToNat, Bool.not_true, Bool.not_false]; (exact hQ))
     ·exact good_num4 nil l 11 (by omega) (by omega)
     ·simp [-List.map_take, -List.map_drop, -List.map_append, -List.map_replicate, -List.reduceReplicate, noPtrL, noPtr, noPtrL_bsl, noPtrL_map, sub]
     ·rfl
     ·exact hK _
    apply aops_step (by decide) rfl
    ·intro K hK
     simp (disch := first | omega | decide) only [go_sem, f0, act_fieldAddr_t fo28_5, List.map, at1_get, Int.toNat_zero, Int.toNat_one, Int.reduceToNat, Bool.not_true, Bool.not_false]
     rw [mwp_fieldAddr_b (by simp only [go_sem, f0, at1_get, Int.toNat_zero, Int.toNat_one, Int.reduceToNat, Bool.not_true, Bool.not_false]; rfl)]
     exact hK _
    apply aops_step0 rfl
    ·intro K hK
     simp (disch := first | omega | decide) only [go_sem, f0, act_store_t ti3, List.map, at1_get, Int.toNat_zero, Int.toNat_one, Int.reduceToNat, Bool.not_true, Bool.not_false]
     rw [mwp_store_c (by simp (disch := first | omega | decide) only [go_sem, f0, at1_get, Int.toNat_zero, Int.toNat_one, Int.reduceToNat, Bool.not_true, Bool.not_false]; rfl) (by rfl) (by rfl) (by rfl) (by simp)]
     (simp [-List.map_take, -List.map_drop, aStore, cellsL, settleL, settle, M.bind, Mwp, freezeN, cellishAV, Value.oneCell', setAt, sub, mset_same, mset_ne, List.take_of_length_le, f0])
     try simp only [setAt, cellsL, cellsOf_agg, cellsOf_base, List.map_cons, List.map_nil, List.set_cons_zero, List.set_cons_succ, Nat.reduceAdd, Nat.zero_add, hG]
     exact hK _
    refine aops_nil ?_
    refine AW.region (cfg := cfg) ?_
    iterate 1 (apply aops_step (by decide) rfl; · (intro K hK; simp (disch := first | omega | decide) only [go_sem, f0, at1_get, Int.toNat_zero, Int.toNat_one, Int.reduceToNat, Bool.not_true, Bool.not_false]; exact hK _))
    refine aops_nil ?_
    refine ⟨_, _, rfl, ?_, ?_, ?_, ?_, ?_, ?_, (by intro i; simp [Mem.set, hr]), (by exact hG)⟩ <;> try simp (disch := first | omega | decide) only [go_sem, f0, at1_get, Int.toNat_zero, Int.toNat_one, Int.reduceToNat, Bool.not_true, Bool.not_false]
    all_goals first | (rw [rEp, if_pos hb]; done) | (rw [rA0, if_pos hb]; rfl)
   case hf =>
    intro hb
    try simp only [bo1, bo2, bo3, bo4, bo5, bo6] at hb
    have hbt38 := hb
    refine AW.skip ?_
    refine ⟨_, _, rfl, ?_, ?_, ?_, ?_, ?_, ?_, (by intro i; simp [Mem.set, hr]), (by exact hG)⟩ <;> try simp (disch := first | omega | decide) only [go_sem, f0, at1_get, Int.toNat_zero, Int.toNat_one, Int.reduceToNat, Bool.not_true, Bool.not_false]
    all_goals first | (rw [rEp, if_neg (by omega)]; done) | (rw [rA0, if_neg (by omega)]; rfl)
  ·clear f0 hr hG
   rintro σ ⟨s, m, rfl, f0, f2, o2, f4, o4, f5, hr, hG⟩
   obtain ⟨g2, o2⟩ : ∃ g, m.objs (.tmp 2 0) = (g, .box [.v (i64 0), .v (i64 0), .v (i64 0), .v (i64 0), .v (i64 0), .v (i64 0), .v (i64 0), .v (.sl 2 true []), .v (.sl 2 true []), .v (.sl 3 true [])]) := ⟨_, Prod.ext rfl o2⟩
   rw [o2] at f2
   obtain ⟨g4, o4⟩ : ∃ g, m.objs (.tmp 4 0) = (g, .box [.v (i64 (at1 l 0)), .v (i64 (at1 l 1)), .v (i64 (rV l 2 false 4)), .v (i64 (at1 l 6)), .v (i64 (rV l 7 false 4)), .v (i64 (rEp l)), .v (i64 0), .v (.sl 2 true []), .v (.sl 2 true []), .v (.sl 3 true [])]) := ⟨_, Prod.ext rfl o4⟩
   rw [o4] at f4
   refine AW.sr (cfg := cfg) ?_
   iterate 1 (apply aops_step (by decide) rfl; · (intro K hK; simp (disch := first | omega | decide) only [go_sem, f0, f2, f4, f5, o2, o4, at1_get, Int.toNat_zero, Int.toNat_one, Int.reduceToNat, Bool.not_true, Bool.not_false]; exact hK _))
   apply aops_step (by decide) rfl
   ·intro K hK
    simp (disch := first | omega | decide) only [go_sem, f0, f2, f4, f5, o2, o4, act_indexAddr_s u22 ti5, List.map, at1_get, Int.toNat_zero, Int.toNat_one, Int.reduceToNat, Bool.not_true, Bool.not_false]
    skip
    exact hK _
   apply aops_step (by decide) rfl
   ·intro K hK
    simp (disch := first | omega | decide) only [go_sem, f0, f2, f4, f5, o2, o4, act_load_t ti5, List.map, at1_get, Int.toNat_zero, Int.toNat_one, Int.reduceToNat, Bool.not_true, Bool.not_false]
    skip
    exact hK _
   iterate 2 (apply aops_step (by decide) rfl; · (intro K hK; simp (disch := first | omega | decide) only [go_sem, f0, f2, f4, f5, o2, o4, act_convI u5 u3, at1_get, Int.toNat_zero, Int.toNat_one, Int.reduceToNat, Bool.not_true, Bool.not_false]; exact hK _))
   refine aops_nil ?_
   refine AW.join (fun σ => ∃ s m, σ = ⟨148, s, m⟩ ∧ s 0 = .v (.sl 1 nil (bsl l)) ∧ s 2 = .lptr (.tmp 2 0) (m.objs (.tmp 2 0)).1 0 ∧ (m.objs (.tmp 2 0)).2 = .box [.v (i64 0), .v (i64 0), .v (i64 0), .v (i64 0), .v (i64 0), .v (i64 0), .v (i64 0), .v (.sl 2 true []), .v (.sl 2 true []), .v (.sl 3 true [])] ∧ s 4 = .lptr (.tmp 4 0) (m.objs (.tmp 4 0)).1 0 ∧ (m.objs (.tmp 4 0)).2 = .box [.v (i64 (at1 l 0)), .v (i64 (at1 l 1)), .v (i64 (rV l 2 false 4)), .v (i64 (at1 l 6)), .v (i64 (rV l 7 false 4)), .v (i64 (rEp l)), .v (i64 (rTe l)), .v (.sl 2 true []), .v (.sl 2 true []), .v (.sl 3 true [])] ∧ s 5 = .v (i64 ((rA0 l : Int) - 1)) ∧ s 6 = .v (i64 (rM3 l)) ∧ (∀ i, (m.objs (.res i)).2 = .dead) ∧ m.G = []) ?_ ?_
   ·skip
    refine AW.sr (cfg := cfg) ?_
    refine aops_fl (by decide) (by decide) fo28_0 ti3 (by simp (disch := first | omega | decide) only [go_sem, f0, f2, f4, f5, o2, o4, at1_get, Int.toNat_zero, Int.toNat_one, Int.reduceToNat, Bool.not_true, Bool.not_false]; rfl) (by simp (disch := first | omega | decide) only [go_sem, f0, f2, f4, f5, o2, o4, at1_get, Int.toNat_zero, Int.toNat_one, Int.reduceToNat, Bool.not_true, Bool.not_false]; rfl) (by rfl) ?_
    iterate 1 (apply aops_step (by decide) rfl; · (intro K hK; simp (disch := first | omega | decide) only [go_sem, f0, f2, f4, f5, o2, o4, at1_get, Int.toNat_zero, Int.toNat_one, Int.reduceToNat, Bool.not_true, Bool.not_false]; exact hK _))
    refine aops_nil ?_
    apply AW.cond
    ·(simp only [go_sem, f0, f2, f4, f5, o2, o4, at1_get, Int.toNat_zero, Int.toNat_one, Int.reduceToNat, Bool.not_true, Bool.not_false]; rfl)
    case ht =>
     intro hb
     try simp only [bo1, bo2, bo3, bo4, bo5, bo6] at hb
     have hbt48 := hb
     refine AW.sr (cfg := cfg) ?_
     iterate 1 (apply aops_step (by decide) rfl; · (intro K hK; simp (disch := first | omega | decide) only [go_sem, f0, f2, f4, f5, o2, o4, at1_get, Int.toNat_zero, Int.toNat_one, Int.reduceToNat, Bool.not_true, Bool.not_false]; exact hK _))
     apply aops_step (by decide) rfl
     ·intro K hK
      simp (disch := first | omega | decide) only [go_sem, f0, f2, f4, f5, o2, o4, act_call, List.map, at1_get, Int.toNat_zero, Int.toNat_one, Int.reduceToNat, Bool.not_true, Bool.not_false]
      apply mwp_call_s rfl rfl rfl
      ·intro Q hQ
       (simp (disch := first | omega | decide) only [go_sem, f0, f2, f4, f5, o2, o4, peekL, reifyL_nil, reifyL_cons, reify_v, at1_get, Int.toNat_zero, Int.toNat_one, Int.reduceToNat, Bool.not_true, Bool.not_false]; (exact hQ))
      ·exact good_num4 nil l 15 (by omega) (by omega)
      ·simp [-List.map_take, -List.map_drop, -List.map_append, -List.map_replicate, -List.reduceReplicate, noPtrL, noPtr, noPtrL_bsl, noPtrL_map, sub]
      ·rfl
      ·exact hK _
     apply aops_step (by decide) rfl
     ·intro K hK
      simp (disch := first | omega | decide) only [go_sem, f0, f2, f4, f5, o2, o4, act_fieldAddr_t fo28_6, List.map, at1_get, Int.toNat_zero, Int.toNat_one, Int.reduceToNat, Bool.not_true, Bool.not_false]
      rw [mwp_fieldAddr_b (by simp only [go_sem, f0, f2, f4, f5, o2, o4, at1_get, Int.toNat_zero, Int.toNat_one, Int.reduceToNat, Bool.not_true, Bool.not_false]; rfl)]
      exact hK _
     apply aops_step0 rfl
     ·intro K hK
      simp (disch := first | omega | decide) only [go_sem, f0, f2, f4, f5, o2, o4, act_store_t ti3, List.map, at1_get, Int.toNat_zero, Int.toNat_one, Int.reduceToNat, Bool.not_true, Bool.not_false]
      rw [mwp_store_c (by simp (disch := first | omega | decide) only [go_sem, f0, f2, f4, f5, o2, o4, at1_get, Int.toNat_zero, Int.toNat_one, Int.reduceToNat, Bool.not_true, Bool.not_false]; rfl) (by rfl) (by rfl) (by rfl) (by simp)]
      (simp [-List.map_take, -List.map_drop, aStore, cellsL, settleL, settle, M.bind, Mwp, freezeN, cellishAV, Value.oneCell', setAt, sub, mset_same, mset_ne, List.take_of_length_le, f0, f2, f4, f5, o2, o4])
      try simp only [setAt, cellsL, cellsOf_agg, cellsOf_base, List.map_cons, List.map_nil, List.set_cons_zero, List.set_cons_succ, Nat.reduceAdd, Nat.zero_add, hG]
      exact hK _
     refine aops_nil ?_
     refine AW.region (cfg := cfg) ?_
     iterate 1 (apply aops_step (by decide) rfl; · (intro K hK; simp (disch := first | omega | decide) only [go_sem, f0, f2, f4, f5, o2, o4, at1_get, Int.toNat_zero, Int.toNat_one, Int.reduceToNat, Bool.not_true, Bool.not_false]; exact hK _))
     refine aops_nil ?_
     refine ⟨_, _, rfl, ?_, ?_, ?_, ?_, ?_, ?_, ?_, (by intro i; simp [Mem.set, hr]), (by exact hG)⟩ <;> try simp (disch := first | omega | decide) only [go_sem, f0, f2, f4, f5, o2, o4, at1_get, Int.toNat_zero, Int.toNat_one, Int.reduceToNat, Bool.not_true, Bool.not_false]
     all_goals first | (rw [rTe, if_pos hb]; done) | (rw [rM3, if_pos hb]; done)
    case hf =>
     intro hb
     try simp only [bo1, bo2, bo3, bo4, bo5, bo6] at hb
     have hbt48 := hb
     refine AW.skip ?_
     refine ⟨_, _, rfl, ?_, ?_, ?_, ?_, ?_, ?_, ?_, (by intro i; simp [Mem.set, hr]), (by exact hG)⟩ <;> try simp (disch := first | omega | decide) only [go_sem, f0, f2, f4, f5, o2, o4, at1_get, Int.toNat_zero, Int.toNat_one, Int.reduceToNat, Bool.not_true, Bool.not_false]
     all_goals first | (rw [rTe, if_neg hb]; done) | (rw [rM3, if_neg hb]; done)
   ·clear f0 f2 f4 f5 o2 o4 hr hG
    rintro σ ⟨s, m, rfl, f0, f2, o2, f4, o4, f5, f6, hr, hG⟩
    obtain ⟨g2, o2⟩ : ∃ g, m.objs (.tmp 2 0) = (g, .box [.v (i64 0), .v (i64 0), .v (i64 0), .v (i64 0), .v (i64 0), .v (i64 0), .v (i64 0), .v (.sl 2 true []), .v (.sl 2 true []), .v (.sl 3 true [])]) := ⟨_, Prod.ext rfl o2⟩
    rw [o2] at f2
    obtain ⟨g4, o4⟩ : ∃ g, m.objs (.tmp 4 0) = (g, .box [.v (i64 (at1 l 0)), .v (i64 (at1 l 1)), .v (i64 (rV l 2 false 4)), .v (i64 (at1 l 6)), .v (i64 (rV l 7 false 4)), .v (i64 (rEp l)), .v (i64 (rTe l)), .v (.sl 2 true []), .v (.sl 2 true []), .v (.sl 3 true [])]) := ⟨_, Prod.ext rfl o4⟩
    rw [o4] at f4
    refine AW.join (fun σ => ∃ s m, σ = ⟨148, s, m⟩ ∧ s 0 = .v (.sl 1 nil (bsl l)) ∧ s 2 = .lptr (.tmp 2 0) (m.objs (.tmp 2 0)).1 0 ∧ (m.objs (.tmp 2 0)).2 = .box [.v (i64 0), .v (i64 0), .v (i64 0), .v (i64 0), .v (i64 0), .v (i64 0), .v (i64 0), .v (.sl 2 true []), .v (.sl 2 true []), .v (.sl 3 true [])] ∧ s 4 = .lptr (.tmp 4 0) (m.objs (.tmp 4 0)).1 0 ∧ (m.objs (.tmp 4 0)).2 = .box [.v (i64 (at1 l 0)), .v (i64 (at1 l 1)), .v (i64 (rV l 2 false 4)), .v (i64 (at1 l 6)), .v (i64 (rV l 7 false 4)), .v (i64 (rEp l)), .v (i64 (rTe l)), .v (.sl 2 true []), .v (.sl 2 true []), .v (.sl 3 true [])] ∧ s 5 = .v (i64 ((rA0 l : Int) - 1)) ∧ s 6 = .v (i64 (rMany l)) ∧ (∀ i, (m.objs (.res i)).2 = .dead) ∧ m.G = []) ?_ ?_
    ·skip
     refine AW.sr (cfg := cfg) ?_
     refine aops_fl (by decide) (by decide) fo28_0 ti3 (by simp only [go_sem, f0, f2, f4, f5, f6, o2, o4, at1_get, Int.toNat_zero, Int.toNat_one, Int.reduceToNat, Bool.not_true, Bool.not_false]; rfl) (by simp only [go_sem, f0, f2, f4, f5, f6, o2, o4, at1_get, Int.toNat_zero, Int.toNat_one, Int.reduceToNat, Bool.not_true, Bool.not_false]; rfl) (by rfl) ?_
     iterate 2 (apply aops_step (by decide) rfl; · (intro K hK; simp (disch := first | omega | decide) only [go_sem, f0, f2, f4, f5, f6, o2, o4, at1_get, Int.toNat_zero, Int.toNat_one, Int.reduceToNat, Bool.not_true, Bool.not_false]; exact hK _))
     apply aops_merge' (by decide) (by exact want_of (d := 55) rfl (by simp only [go_sem, f0, f2, f4, f5, f6, o2, o4, opn_cond, at1_get, Int.toNat_zero, Int.toNat_one, Int.reduceToNat, Bool.not_true, Bool.not_false]; rfl))
     ·intro hc K hK
      simp (disch := first | omega | decide) only [go_sem, f0, f2, f4, f5, f6, o2, o4, opn_cond, hc, if_true, at1_get, Int.toNat_zero, Int.toNat_one, Int.reduceToNat, Bool.not_true, Bool.not_false]
      exact hK _
     apply aops_merge' (by decide) (by exact want_of (d := 55) rfl (by simp (disch := first | omega | decide) only [go_sem, f0, f2, f4, f5, f6, o2, o4, opn_cond, at1_get, Int.toNat_zero, Int.toNat_one, Int.reduceToNat, Bool.not_true, Bool.not_false]; rfl))
     ·intro hc K hK
      simp (disch := first | omega | decide) only [go_sem, f0, f2, f4, f5, f6, o2, o4, opn_cond, hc, if_true, List.map, List.length_map, aops_len u22, at1_get, Int.toNat_zero, Int.toNat_one, Int.reduceToNat, Bool.not_true, Bool.not_false]
      exact hK _
     apply aops_merge' (by decide) (by exact want_of (d := 55) rfl (by simp (disch := first | omega | decide) only [go_sem, f0, f2, f4, f5, f6, o2, o4, opn_cond, at1_get, Int.toNat_zero, Int.toNat_one, Int.reduceToNat, Bool.not_true, Bool.not_false]; rfl))
     ·intro hc K hK
      simp (disch := first | omega | decide) only [go_sem, f0, f2, f4, f5, f6, o2, o4, opn_cond, hc, if_true, at1_get, Int.toNat_zero, Int.toNat_one, Int.reduceToNat, Bool.not_true, Bool.not_false]
      exact hK _
     iterate 1 (apply aops_step (by decide) rfl; · (intro K hK; simp (disch := first | omega | decide) only [go_sem, f0, f2, f4, f5, f6, o2, o4, at1_get, Int.toNat_zero, Int.toNat_one, Int.reduceToNat, Bool.not_true, Bool.not_false]; exact hK _))
     refine aops_nil ?_
     apply AW.cond
     ·(simp only [go_sem, f0, f2, f4, f5, f6, o2, o4, at1_get, Int.toNat_zero, Int.toNat_one, Int.reduceToNat, Bool.not_true, Bool.not_false]; rfl)
     case ht =>
      intro hb
      try simp only [bo1, bo2, bo3, bo4, bo5, bo6] at hb
      have hbt59 := hb
      refine AW.region (cfg := cfg) ?_
      iterate 1 (apply aops_step (by decide) rfl; · (intro K hK; simp (disch := first | omega | decide) only [go_sem, f0, f2, f4, f5, f6, o2, o4, at1_get, Int.toNat_zero, Int.toNat_one, Int.reduceToNat, Bool.not_true, Bool.not_false]; exact hK _))
      apply aops_step (by decide) rfl
      ·intro K hK
       simp (disch := first | omega | decide) only [go_sem, f0, f2, f4, f5, f6, o2, o4, act_indexAddr_s u22 ti5, List.map, at1_get, Int.toNat_zero, Int.toNat_one, Int.reduceToNat, Bool.not_true, Bool.not_false]
       skip
       exact hK _
      apply aops_step (by decide) rfl
      ·intro K hK
       simp (disch := first | omega | decide) only [go_sem, f0, f2, f4, f5, f6, o2, o4, act_load_t ti5, List.map, at1_get, Int.toNat_zero, Int.toNat_one, Int.reduceToNat, Bool.not_true, Bool.not_false]
       skip
       exact hK _
      iterate 2 (apply aops_step (by decide) rfl; · (intro K hK; simp (disch := first | omega | decide) only [go_sem, f0, f2, f4, f5, f6, o2, o4, act_convI u5 u3, at1_get, Int.toNat_zero, Int.toNat_one, Int.reduceToNat, Bool.not_true, Bool.not_false]; exact hK _))
      refine aops_nil ?_
      refine ⟨_, _, rfl, ?_, ?_, ?_, ?_, ?_, ?_, ?_, (by intro i; simp [Mem.set, hr]), (by exact hG)⟩ <;> try simp (disch := first | omega | decide) only [go_sem, f0, f2, f4, f5, f6, o2, o4, at1_get, Int.toNat_zero, Int.toNat_one, Int.reduceToNat, Bool.not_true, Bool.not_false]
      all_goals (rw [rMany, if_neg (by omega), if_pos hb]; done)
     case hf =>
      intro hb
      try simp only [bo1, bo2, bo3, bo4, bo5, bo6] at hb
      have hbt59 := hb
      refine AW.skip ?_
      refine ⟨_, _, rfl, ?_, ?_, ?_, ?_, ?_, ?_, ?_, (by intro i; simp [Mem.set, hr]), (by exact hG)⟩ <;> try simp (disch := first | omega | decide) only [go_sem, f0, f2, f4, f5, f6, o2, o4, at1_get, Int.toNat_zero, Int.toNat_one, Int.reduceToNat, Bool.not_true, Bool.not_false]
      all_goals (rw [rM3, rMany]; split; rfl; rw [if_neg (by omega)]; done)
    ·clear f0 f2 f4 f5 f6 o2 o4 hr hG
     rintro σ ⟨s, m, rfl, f0, f2, o2, f4, o4, f5, f6, hr, hG⟩
     obtain ⟨g2, o2⟩ : ∃ g, m.objs (.tmp 2 0) = (g, .box [.v (i64 0), .v (i64 0), .v (i64 0), .v (i64 0), .v (i64 0), .v (i64 0), .v (i64 0), .v (.sl 2 true []), .v (.sl 2 true []), .v (.sl 3 true [])]) := ⟨_, Prod.ext rfl o2⟩
     rw [o2] at f2
     obtain ⟨g4, o4⟩ : ∃ g, m.objs (.tmp 4 0) = (g, .box [.v (i64 (at1 l 0)), .v (i64 (at1 l 1)), .v (i64 (rV l 2 false 4)), .v (i64 (at1 l 6)), .v (i64 (rV l 7 false 4)), .v (i64 (rEp l)), .v (i64 (rTe l)), .v (.sl 2 true []), .v (.sl 2 true []), .v (.sl 3 true [])]) := ⟨_, Prod.ext rfl o4⟩
     rw [o4] at f4
     refine AW.seq ?_
     have ra := rA0_le l
     have mr := rMany_rg l
     refine AW.region (cfg := cfg) ?_
     iterate 3 (apply aops_step (by decide) rfl; · (intro K hK; simp (disch := first | omega | decide) only [go_sem, f0, f2, f4, f5, f6, o2, o4, at1_get, Int.toNat_zero, Int.toNat_one, Int.reduceToNat, Bool.not_true, Bool.not_false]; exact hK _))
     refine aops_nil ?_
     refine AW.join (fun σ => ∃ (s : Nat → LV) (m : Mem) (u : Sr), σ = ⟨148, s, m⟩ ∧ s 0 = .v (.sl 1 nil (bsl l)) ∧ s 2 = .lptr (.tmp 2 0) (m.objs (.tmp 2 0)).1 0 ∧ (m.objs (.tmp 2 0)).2 = .box [.v (i64 0), .v (i64 0), .v (i64 0), .v (i64 0), .v (i64 0), .v (i64 0), .v (i64 0), .v (.sl 2 true []), .v (.sl 2 true []), .v (.sl 3 true [])] ∧ s 4 = .lptr (.tmp 4 0) (m.objs (.tmp 4 0)).1 0 ∧ (m.objs (.tmp 4 0)).2 = .box [.v (i64 (at1 l 0)), .v (i64 (at1 l 1)), .v (i64 (rV l 2 false 4)), .v (i64 (at1 l 6)), .v (i64 (rV l 7 false 4)), .v (i64 (rEp l)), .v (i64 (rTe l)), .own (.cell 4 7) (m.objs (.cell 4 7)).1 0 u.hs.length, .own (.cell 4 8) (m.objs (.cell 4 8)).1 0 u.xs.length, .own (.cell 4 9) (m.objs (.cell 4 9)).1 0 u.ls.length] ∧ (m.objs (.cell 4 7)).2 = .arr u.hs.isEmpty 2 (u.hs.map linkA) ∧ (m.objs (.cell 4 8)).2 = .arr u.xs.isEmpty 2 (u.xs.map linkA) ∧ (m.objs (.cell 4 9)).2 = .arr u.ls.isEmpty 3 (u.ls.map lsaA) ∧ (rEnd l = some u) ∧ (∀ i, (m.objs (.res i)).2 = .dead) ∧ m.G = []) ?_ ?_
     ·skip
      refine AW.seq ?_
      refine AW.cellNil 4 7 2 (by simp (disch := first | omega | decide) only [go_sem, f0, f2, f4, f5, f6, o2, o4, at1_get, Int.toNat_zero, Int.toNat_one, Int.reduceToNat, Bool.not_true, Bool.not_false]; rfl) (by rfl) ?_
      refine AW.cellNil 4 8 2 (by simp (disch := first | omega | decide) only [go_sem, f0, f2, f4, f5, f6, o2, o4, at1_get, Int.toNat_zero, Int.toNat_one, Int.reduceToNat, Bool.not_true, Bool.not_false]; rfl) (by rfl) ?_
      refine AW.cellNil 4 9 3 (by simp (disch := first | omega | decide) only [go_sem, f0, f2, f4, f5, f6, o2, o4, at1_get, Int.toNat_zero, Int.toNat_one, Int.reduceToNat, Bool.not_true, Bool.not_false]; rfl) (by rfl) ?_
      refine AW.region (cfg := cfg) ?_
      iterate 1 (apply aops_step (by decide) rfl; · (intro K hK; simp (disch := first | omega | decide) only [go_sem, f0, f2, f4, f5, f6, o2, o4, at1_get, Int.toNat_zero, Int.toNat_one, Int.reduceToNat, Bool.not_true, Bool.not_false]; exact hK _))
      refine aops_nil ?_
      refine AW.block ?_
      refine AW.forN (fun k σ => ∃ s m, σ = ⟨148, s, m⟩ ∧ s 0 = .v (.sl 1 nil (bsl l)) ∧ s 2 = .lptr (.tmp 2 0) (m.objs (.tmp 2 0)).1 0 ∧ (m.objs (.tmp 2 0)).2 = .box [.v (i64 0), .v (i64 0), .v (i64 0), .v (i64 0), .v (i64 0), .v (i64 0), .v (i64 0), .v (.sl 2 true []), .v (.sl 2 true []), .v (.sl 3 true [])] ∧ s 4 = .lptr (.tmp 4 0) (m.objs (.tmp 4 0)).1 0 ∧ (m.objs (.tmp 4 0)).2 = .box [.v (i64 (at1 l 0)), .v (i64 (at1 l 1)), .v (i64 (rV l 2 false 4)), .v (i64 (at1 l 6)), .v (i64 (rV l 7 false 4)), .v (i64 (rEp l)), .v (i64 (rTe l)), .own (.cell 4 7) (m.objs (.cell 4 7)).1 0 (rS (at1 l 0) l (rA0 l) k).hs.length, .own (.cell 4 8) (m.objs (.cell 4 8)).1 0 (rS (at1 l 0) l (rA0 l) k).xs.length, .own (.cell 4 9) (m.objs (.cell 4 9)).1 0 (rS (at1 l 0) l (rA0 l) k).ls.length] ∧ (m.objs (.cell 4 7)).2 = .arr (rS (at1 l 0) l (rA0 l) k).hs.isEmpty 2 ((rS (at1 l 0) l (rA0 l) k).hs.map linkA) ∧ (m.objs (.cell 4 8)).2 = .arr (rS (at1 l 0) l (rA0 l) k).xs.isEmpty 2 ((rS (at1 l 0) l (rA0 l) k).xs.map linkA) ∧ (m.objs (.cell 4 9)).2 = .arr (rS (at1 l 0) l (rA0 l) k).ls.isEmpty 3 ((rS (at1 l 0) l (rA0 l) k).ls.map lsaA) ∧ s 5 = .v (i64 ((rS (at1 l 0) l (rA0 l) k).a : Int)) ∧ s 6 = .v (i64 (rMany l)) ∧ s 7 = .v (i64 (k : Int)) ∧ (rloop (at1 l 0) l (rA0 l) k = some (rS (at1 l 0) l (rA0 l) k)) ∧ (∀ i, (m.objs (.res i)).2 = .dead) ∧ m.G = []) ((rMany l).toNat) ?_ ?_ ?_
      ·refine ⟨_, _, rfl, ?_, ?_, ?_, ?_, ?_, ?_, ?_, ?_, ?_, ?_, ?_, ?_, (by intro i; simp [Mem.set, hr]), (by exact hG)⟩ <;> try simp (disch := first | omega | decide) only [go_sem, f0, f2, f4, f5, f6, o2, o4, at1_get, Int.toNat_zero, Int.toNat_one, Int.reduceToNat, Bool.not_true, Bool.not_false]
       all_goals first | rfl | exact congrArg (fun z => LV.v (i64 z)) (by show ((rA0 l : Nat) : Int) - 1 + 1 = ((rA0 l : Nat) : Int); omega)
      ·clear f0 f2 f4 f5 f6 o2 o4 hr hG
       rintro k σ hk ⟨s, m, rfl, f0, f2, o2, f4, o4, o4c7, o4c8, o4c9, f5, f6, f7, mo0, hr, hG⟩
       obtain ⟨g2, o2⟩ : ∃ g, m.objs (.tmp 2 0) = (g, .box [.v (i64 0), .v (i64 0), .v (i64 0), .v (i64 0), .v (i64 0), .v (i64 0), .v (i64 0), .v (.sl 2 true []), .v (.sl 2 true []), .v (.sl 3 true [])]) := ⟨_, Prod.ext rfl o2⟩
       rw [o2] at f2
       obtain ⟨g4c7, o4c7⟩ : ∃ g, m.objs (.cell 4 7) = (g, .arr (rS (at1 l 0) l (rA0 l) k).hs.isEmpty 2 ((rS (at1 l 0) l (rA0 l) k).hs.map linkA)) := ⟨_, Prod.ext rfl o4c7⟩
       rw [o4c7] at o4
       obtain ⟨g4c8, o4c8⟩ : ∃ g, m.objs (.cell 4 8) = (g, .arr (rS (at1 l 0) l (rA0 l) k).xs.isEmpty 2 ((rS (at1 l 0) l (rA0 l) k).xs.map linkA)) := ⟨_, Prod.ext rfl o4c8⟩
       rw [o4c8] at o4
       obtain ⟨g4c9, o4c9⟩ : ∃ g, m.objs (.cell 4 9) = (g, .arr (rS (at1 l 0) l (rA0 l) k).ls.isEmpty 3 ((rS (at1 l 0) l (rA0 l) k).ls.map lsaA)) := ⟨_, Prod.ext rfl o4c9⟩
       rw [o4c9] at o4
       simp only at o4
       obtain ⟨g4, o4⟩ : ∃ g, m.objs (.tmp 4 0) = (g, .box [.v (i64 (at1 l 0)), .v (i64 (at1 l 1)), .v (i64 (rV l 2 false 4)), .v (i64 (at1 l 6)), .v (i64 (rV l 7 false 4)), .v (i64 (rEp l)), .v (i64 (rTe l)), .own (.cell 4 7) g4c7 0 (rS (at1 l 0) l (rA0 l) k).hs.length, .own (.cell 4 8) g4c8 0 (rS (at1 l 0) l (rA0 l) k).xs.length, .own (.cell 4 9) g4c9 0 (rS (at1 l 0) l (rA0 l) k).ls.length]) := ⟨_, Prod.ext rfl o4⟩
       rw [o4] at f4
       refine AW.seq ?_
       refine AW.sr (cfg := cfg) ?_
       iterate 4 (apply aops_step (by decide) rfl; · (intro K hK; simp (disch := first | omega | decide) only [go_sem, f0, f2, f4, f5, f6, f7, o2, o4, o4c7, o4c8, o4c9, at1_get, Int.toNat_zero, Int.toNat_one, Int.reduceToNat, Bool.not_true, Bool.not_false]; exact hK _))
       apply aops_merge' (by decide) (by exact want_of (d := 69) rfl (by simp only [go_sem, f0, f2, f4, f5, f6, f7, o2, o4, o4c7, o4c8, o4c9, opn_cond, at1_get, Int.toNat_zero, Int.toNat_one, Int.reduceToNat, Bool.not_true, Bool.not_false]; rfl))
       ·intro hc K hK
        simp (disch := first | omega | decide) only [go_sem, f0, f2, f4, f5, f6, f7, o2, o4, o4c7, o4c8, o4c9, opn_cond, hc, if_true, at1_get, Int.toNat_zero, Int.toNat_one, Int.reduceToNat, Bool.not_true, Bool.not_false]
        exact hK _
       apply aops_merge' (by decide) (by exact want_of (d := 69) rfl (by simp (disch := first | omega | decide) only [go_sem, f0, f2, f4, f5, f6, f7, o2, o4, o4c7, o4c8, o4c9, opn_cond, at1_get, Int.toNat_zero, Int.toNat_one, Int.reduceToNat, Bool.not_true, Bool.not_false]; rfl))
       ·intro hc K hK
        simp (disch := first | omega | decide) only [go_sem, f0, f2, f4, f5, f6, f7, o2, o4, o4c7, o4c8, o4c9, opn_cond, hc, if_true, at1_get, Int.toNat_zero, Int.toNat_one, Int.reduceToNat, Bool.not_true, Bool.not_false]
        exact hK _
       apply aops_merge' (by decide) (by exact want_of (d := 69) rfl (by simp (disch := first | omega | decide) only [go_sem, f0, f2, f4, f5, f6, f7, o2, o4, o4c7, o4c8, o4c9, opn_cond, at1_get, Int.toNat_zero, Int.toNat_one, Int.reduceToNat, Bool.not_true, Bool.not_false]; rfl))
       ·intro hc K hK
        simp (disch := first | omega | decide) only [go_sem, f0, f2, f4, f5, f6, f7, o2, o4, o4c7, o4c8, o4c9, opn_cond, hc, if_true, List.map, List.length_map, aops_len u22, at1_get, Int.toNat_zero, Int.toNat_one, Int.reduceToNat, Bool.not_true, Bool.not_false]
        exact hK _
       apply aops_merge' (by decide) (by exact want_of (d := 69) rfl (by simp (disch := first | omega | decide) only [go_sem, f0, f2, f4, f5, f6, f7, o2, o4, o4c7, o4c8, o4c9, opn_cond, at1_get, Int.toNat_zero, Int.toNat_one, Int.reduceToNat, Bool.not_true, Bool.not_false]; rfl))
       ·intro hc K hK
        simp (disch := first | omega | decide) only [go_sem, f0, f2, f4, f5, f6, f7, o2, o4, o4c7, o4c8, o4c9, opn_cond, hc, if_true, at1_get, Int.toNat_zero, Int.toNat_one, Int.reduceToNat, Bool.not_true, Bool.not_false]
        exact hK _
       iterate 1 (apply aops_step (by decide) rfl; · (intro K hK; simp (disch := first | omega | decide) only [go_sem, f0, f2, f4, f5, f6, f7, o2, o4, o4c7, o4c8, o4c9, at1_get, Int.toNat_zero, Int.toNat_one, Int.reduceToNat, Bool.not_true, Bool.not_false]; exact hK _))
       refine aops_nil ?_
       apply AW.cond
       ·(simp only [go_sem, f0, f2, f4, f5, f6, f7, o2, o4, o4c7, o4c8, o4c9, at1_get, Int.toNat_zero, Int.toNat_one, Int.reduceToNat, Bool.not_true, Bool.not_false]; rfl)
       case ht =>
        intro hb
        try simp only [bo1, bo2, bo3, bo4, bo5, bo6] at hb
        have hbt74 := hb
        refine AW.skip ?_
        refine AW.seq ?_
        refine AW.block ?_
        refine AW.seq ?_
        have hta : (rS (at1 l 0) l (rA0 l) k).a < l.length := (by have := hbt74; omega)
        have bd := rloop_bd (rA0_le l) mo0
        have atk := at1_rg l (rS (at1 l 0) l (rA0 l) k).a
        refine AW.region (cfg := cfg) ?_
        refine aops_fl (by decide) (by decide) fo28_0 ti3 (by simp (disch := first | omega | decide) only [go_sem, f0, f2, f4, f5, f6, f7, o2, o4, o4c7, o4c8, o4c9, at1_get, Int.toNat_zero, Int.toNat_one, Int.reduceToNat, Bool.not_true, Bool.not_false]; rfl) (by simp (disch := first | omega | decide) only [go_sem, f0, f2, f4, f5, f6, f7, o2, o4, o4c7, o4c8, o4c9, at1_get, Int.toNat_zero, Int.toNat_one, Int.reduceToNat, Bool.not_true, Bool.not_false]; rfl) (by rfl) ?_
        refine aops_nil ?_
        refine AW.block ?_
        refine AW.sr (cfg := cfg) ?_
        iterate 2 (apply aops_step (by decide) rfl; · (intro K hK; simp (disch := first | omega | decide) only [go_sem, f0, f2, f4, f5, f6, f7, o2, o4, o4c7, o4c8, o4c9, at1_get, Int.toNat_zero, Int.toNat_one, Int.reduceToNat, Bool.not_true, Bool.not_false]; exact hK _))
        refine aops_nil ?_
        apply AW.cond
        ·(simp only [go_sem, f0, f2, f4, f5, f6, f7, o2, o4, o4c7, o4c8, o4c9, at1_get, Int.toNat_zero, Int.toNat_one, Int.reduceToNat, Bool.not_true, Bool.not_false]; rfl)
        case ht =>
         intro hb
         try simp only [bo1, bo2, bo3, bo4, bo5, bo6] at hb
         have hbt96 := hb
         refine AW.seq ?_
         have gr4 := good_num4 nil l ((rS (at1 l 0) l (rA0 l) k).a + 1) (by omega) (by omega)
         rw [show (((rS (at1 l 0) l (rA0 l) k).a + 1 : Nat) : Int) = ((rS (at1 l 0) l (rA0 l) k).a : Int) + 1 by omega] at gr4
         refine AW.draw (cfg := cfg) (by kernel_rfl) (by kernel_rfl) (by kernel_rfl) ?_
         apply adraw_step rfl
         ·intro K hK
          simp (disch := first | omega | decide) only [go_sem, f0, f2, f4, f5, f6, f7, o2, o4, o4c7, o4c8, o4c9, act_fieldAddr_t fo28_7, List.map, at1_get, Int.toNat_zero, Int.toNat_one, Int.reduceToNat, Bool.not_true, Bool.not_false]
          rw [mwp_fieldAddr_b (by simp only [go_sem, f0, f2, f4, f5, f6, f7, o2, o4, o4c7, o4c8, o4c9, at1_get, Int.toNat_zero, Int.toNat_one, Int.reduceToNat, Bool.not_true, Bool.not_false]; rfl)]
          exact hK
         apply adraw_step rfl
         ·intro K hK
          simp (disch := first | omega | decide) only [go_sem, f0, f2, f4, f5, f6, f7, o2, o4, o4c7, o4c8, o4c9, act_load_t ti24, List.map, at1_get, Int.toNat_zero, Int.toNat_one, Int.reduceToNat, Bool.not_true, Bool.not_false]
          rw [mwp_load_b1 (by simp only [go_sem, f0, f2, f4, f5, f6, f7, o2, o4, o4c7, o4c8, o4c9, at1_get, Int.toNat_zero, Int.toNat_one, Int.reduceToNat, Bool.not_true, Bool.not_false]; rfl) (by rfl)]
          exact hK
         iterate 2 (apply adraw_step rfl; · (intro K hK; simp (disch := first | omega | decide) only [go_sem, f0, f2, f4, f5, f6, f7, o2, o4, o4c7, o4c8, o4c9, at1_get, Int.toNat_zero, Int.toNat_one, Int.reduceToNat, Bool.not_true, Bool.not_false]; exact hK))
         apply adraw_step rfl
         ·intro K hK
          simp (disch := first | omega | decide) only [go_sem, f0, f2, f4, f5, f6, f7, o2, o4, o4c7, o4c8, o4c9, act_indexAddr_s u22 ti5, List.map, at1_get, Int.toNat_zero, Int.toNat_one, Int.reduceToNat, Bool.not_true, Bool.not_false]
          skip
          exact hK
         apply adraw_step rfl
         ·intro K hK
          simp (disch := first | omega | decide) only [go_sem, f0, f2, f4, f5, f6, f7, o2, o4, o4c7, o4c8, o4c9, act_load_t ti5, List.map, at1_get, Int.toNat_zero, Int.toNat_one, Int.reduceToNat, Bool.not_true, Bool.not_false]
          skip
          exact hK
         iterate 4 (apply adraw_step rfl; · (intro K hK; simp (disch := first | omega | decide) only [go_sem, f0, f2, f4, f5, f6, f7, o2, o4, o4c7, o4c8, o4c9, act_convI u5 u3, at1_get, Int.toNat_zero, Int.toNat_one, Int.reduceToNat, Bool.not_true, Bool.not_false]; exact hK))
         apply adraw_step rfl
         ·intro K hK
          simp (disch := first | omega | decide) only [go_sem, f0, f2, f4, f5, f6, f7, o2, o4, o4c7, o4c8, o4c9, act_call, List.map, at1_get, Int.toNat_zero, Int.toNat_one, Int.reduceToNat, Bool.not_true, Bool.not_false]
          apply mwp_call_s rfl rfl rfl
          ·intro Q hQ
           (simp (disch := first | omega | decide) only [go_sem, f0, f2, f4, f5, f6, f7, o2, o4, o4c7, o4c8, o4c9, peekL, reifyL_nil, reifyL_cons, reify_v, at1_get, Int.toNat_zero, Int.toNat_one, Int.reduceToNat, Bool.not_true, Bool.not_false]; (exact hQ))
          ·exact gr4
          ·simp [-List.map_take, -List.map_drop, -List.map_append, -List.map_replicate, -List.reduceReplicate, noPtrL, noPtr, noPtrL_bsl, noPtrL_map, sub]
          ·rfl
          ·exact hK
         apply adraw_step rfl
         ·intro K hK
          simp (disch := first | omega | decide) only [go_sem, f0, f2, f4, f5, f6, f7, o2, o4, o4c7, o4c8, o4c9, act_build_t ti74 pl74, List.map, at1_get, Int.toNat_zero, Int.toNat_one, Int.reduceToNat, Bool.not_true, Bool.not_false]
          simp [-List.map_take, -List.map_drop, fillL, okOne, cellishAV, Value.oneCell', cellsL, cellsOf, setAt, M.bind, Mwp, mset_same, Obj.isArr, o2, o4, o4c7, o4c8, o4c9]
          exact hK
         apply adraw_step rfl
         ·intro K hK
          rw [act_bs el24 ti74]
          (simp [-List.map_take, -List.map_drop, -BitVec.toNat_ofInt, -BitVec.ofInt_natCast, -BitVec.toNat_setWidth, -BitVec.toNat_ushiftRight, -BitVec.toNat_umod, -BitVec.toNat_udiv, go_sem, elems_v, cellishAV, Value.oneCell', isAggAV, partsOf, TI.z, TI.mk1, f0, f2, f4, f5, f6, f7, o2, o4, o4c7, o4c8, o4c9]; exact hK)
         apply adraw_step rfl
         ·intro K hK
          simp (disch := first | omega | decide) only [go_sem, f0, f2, f4, f5, f6, f7, o2, o4, o4c7, o4c8, o4c9, List.map, at1_get, Int.toNat_zero, Int.toNat_one, Int.reduceToNat, Bool.not_true, Bool.not_false]
          apply mwp_append2 el24 ti74 u24
          case hpk => intro Q hQ; (rw [peek_own (by simp (disch := first | omega | decide) only [go_sem, f0, f2, f4, f5, f6, f7, o2, o4, o4c7, o4c8, o4c9, at1_get, Int.toNat_zero, Int.toNat_one, Int.reduceToNat, Bool.not_true, Bool.not_false]; rfl)]; (try rw [sub_full (by rfl)]); exact hQ)
          case hs' => rfl
          case ho => simp (disch := first | omega | decide) only [go_sem, f0, f2, f4, f5, f6, f7, o2, o4, o4c7, o4c8, o4c9, at1_get, Int.toNat_zero, Int.toNat_one, Int.reduceToNat, Bool.not_true, Bool.not_false]; rfl
          case hsz => rfl
          case hhi => (simp; done)
          case hb => (simp [sub, roomB]; omega)
          case hy => exact all_cells rfl
          case k => (try simp only [List.nil_append, ← List.map_append, Bool.false_and]); exact hK
         apply adraw_step rfl
         ·intro K hK
          simp (disch := first | omega | decide) only [go_sem, f0, f2, f4, f5, f6, f7, o2, o4, o4c7, o4c8, o4c9, act_fieldAddr_t fo28_7, List.map, at1_get, Int.toNat_zero, Int.toNat_one, Int.reduceToNat, Bool.not_true, Bool.not_false]
          rw [mwp_fieldAddr_b (by simp (disch := first | omega | decide) only [go_sem, f0, f2, f4, f5, f6, f7, o2, o4, o4c7, o4c8, o4c9, at1_get, Int.toNat_zero, Int.toNat_one, Int.reduceToNat, Bool.not_true, Bool.not_false]; rfl)]
          exact hK
         apply adraw_step0 rfl
         ·intro K hK
          simp (disch := first | omega | decide) only [go_sem, f0, f2, f4, f5, f6, f7, o2, o4, o4c7, o4c8, o4c9, act_store_t ti24, List.map, at1_get, Int.toNat_zero, Int.toNat_one, Int.reduceToNat, Bool.not_true, Bool.not_false]
          rw [mwp_store_o (by simp (disch := first | omega | decide) only [go_sem, f0, f2, f4, f5, f6, f7, o2, o4, o4c7, o4c8, o4c9, at1_get, Int.toNat_zero, Int.toNat_one, Int.reduceToNat, Bool.not_true, Bool.not_false]; rfl) (by simp (disch := first | omega | decide) only [go_sem, f0, f2, f4, f5, f6, f7, o2, o4, o4c7, o4c8, o4c9, at1_get, Int.toNat_zero, Int.toNat_one, Int.reduceToNat, Bool.not_true, Bool.not_false]; rfl) (by decide) (by simp)]
          (simp [-List.map_take, -List.map_drop, aStore, cellsL, settleL, settle, M.bind, Mwp, freezeN, cellishAV, Value.oneCell', setAt, sub, mset_same, mset_ne, List.take_of_length_le, f0, f2, f4, f5, f6, f7, o2, o4, o4c7, o4c8, o4c9])
          try simp only [setAt, cellsL, cellsOf_agg, cellsOf_base, List.map_cons, List.map_nil, List.set_cons_zero, List.set_cons_succ, Nat.reduceAdd, Nat.zero_add, hG]
          exact hK
         refine adraw_nil (by kernel_rfl) ?_
         refine AW.region (cfg := cfg) ?_
         iterate 3 (apply aops_step (by decide) rfl; · (intro K hK; simp (disch := first | omega | decide) only [go_sem, f0, f2, f4, f5, f6, f7, o2, o4, o4c7, o4c8, o4c9, at1_get, Int.toNat_zero, Int.toNat_one, Int.reduceToNat, Bool.not_true, Bool.not_false]; exact hK _))
         refine aops_nil ?_
         refine AW.region (cfg := cfg) ?_
         iterate 3 (apply aops_step (by decide) rfl; · (intro K hK; simp (disch := first | omega | decide) only [go_sem, f0, f2, f4, f5, f6, f7, o2, o4, o4c7, o4c8, o4c9, at1_get, Int.toNat_zero, Int.toNat_one, Int.reduceToNat, Bool.not_true, Bool.not_false]; exact hK _))
         refine aops_nil ?_
         refine ⟨_, _, rfl, ?_, ?_, ?_, ?_, ?_, ?_, ?_, ?_, ?_, ?_, ?_, ?_, (by intro i; simp [Mem.set, hr]), (by exact hG)⟩ <;> try simp (disch := first | omega | decide) only [go_sem, f0, f2, f4, f5, f6, f7, o2, o4, o4c7, o4c8, o4c9, at1_get, Int.toNat_zero, Int.toNat_one, Int.reduceToNat, Bool.not_true, Bool.not_false]
         all_goals first | rfl | exact (rS_1 mo0 hbt96 hta).1 | (simp only [(rS_1 mo0 hbt96 hta).2]; done) | (simp only [(rS_1 mo0 hbt96 hta).2]; rfl) | (simp only [(rS_1 mo0 hbt96 hta).2]; simp [rHear, linkA]; done)
        case hf =>
         intro hb
         try simp only [bo1, bo2, bo3, bo4, bo5, bo6] at hb
         have hbt96 := hb
         refine AW.sr (cfg := cfg) ?_
         iterate 2 (apply aops_step (by decide) rfl; · (intro K hK; simp (disch := first | omega | decide) only [go_sem, f0, f2, f4, f5, f6, f7, o2, o4, o4c7, o4c8, o4c9, at1_get, Int.toNat_zero, Int.toNat_one, Int.reduceToNat, Bool.not_true, Bool.not_false]; exact hK _))
         refine aops_nil ?_
         apply AW.cond
         ·(simp only [go_sem, f0, f2, f4, f5, f6, f7, o2, o4, o4c7, o4c8, o4c9, at1_get, Int.toNat_zero, Int.toNat_one, Int.reduceToNat, Bool.not_true, Bool.not_false]; rfl)
         case ht =>
          intro hb
          try simp only [bo1, bo2, bo3, bo4, bo5, bo6] at hb
          have hbt115 := hb
          refine AW.sr (cfg := cfg) ?_
          iterate 3 (apply aops_step (by decide) rfl; · (intro K hK; simp (disch := first | omega | decide) only [go_sem, f0, f2, f4, f5, f6, f7, o2, o4, o4c7, o4c8, o4c9, act_slice_s u22 ti5, at1_get, Int.toNat_zero, Int.toNat_one, Int.reduceToNat, Bool.not_true, Bool.not_false]; exact hK _))
          apply aops_step (by decide) rfl
          ·intro K hK
           simp (disch := first | omega | decide) only [go_sem, f0, f2, f4, f5, f6, f7, o2, o4, o4c7, o4c8, o4c9, act_call, List.map, at1_get, Int.toNat_zero, Int.toNat_one, Int.reduceToNat, Bool.not_true, Bool.not_false]
           apply mwp_call_r rfl rfl rfl
           ·intro Q hQ
            (simp (disch := first | omega | decide) only [go_sem, f0, f2, f4, f5, f6, f7, o2, o4, o4c7, o4c8, o4c9, peekL, reifyL_nil, reifyL_cons, reify_v, at1_get, Int.toNat_zero, Int.toNat_one, Int.reduceToNat, Bool.not_true, Bool.not_false]; (exact hQ))
           ·exact L.good_refRead nil (l.drop (rS (at1 l 0) l (rA0 l) k).a) (by simp; omega)
           ·simp [-List.map_take, -List.map_drop, -List.map_append, -List.map_replicate, -List.reduceReplicate, noPtrL, noPtr, noPtrL_bsl, noPtrL_map, sub]
           ·simp (disch := first | omega | decide) only [go_sem, f0, f2, f4, f5, f6, f7, o2, o4, o4c7, o4c8, o4c9, at1_get, Int.toNat_zero, Int.toNat_one, Int.reduceToNat, Bool.not_true, Bool.not_false]
            exact hK _
          iterate 3 (apply aops_step (by decide) rfl; · (intro K hK; simp (disch := first | omega | decide) only [go_sem, f0, f2, f4, f5, f6, f7, o2, o4, o4c7, o4c8, o4c9, at1_get, Int.toNat_zero, Int.toNat_one, Int.reduceToNat, Bool.not_true, Bool.not_false]; exact hK _))
          apply aops_step (by decide) rfl
          ·intro K hK
           simp (disch := first | omega | decide) only [go_sem, f0, f2, f4, f5, f6, f7, o2, o4, o4c7, o4c8, o4c9, act_alloc_t ti79, List.map, at1_get, Int.toNat_zero, Int.toNat_one, Int.reduceToNat, Bool.not_true, Bool.not_false]
           exact hK _
          apply aops_step0 rfl
          ·intro K hK
           simp (disch := first | omega | decide) only [go_sem, f0, f2, f4, f5, f6, f7, o2, o4, o4c7, o4c8, o4c9, act_store_t ti79, List.map, at1_get, Int.toNat_zero, Int.toNat_one, Int.reduceToNat, Bool.not_true, Bool.not_false]
           rw [mwp_store_c (by simp (disch := first | omega | decide) only [go_sem, f0, f2, f4, f5, f6, f7, o2, o4, o4c7, o4c8, o4c9, at1_get, Int.toNat_zero, Int.toNat_one, Int.reduceToNat, Bool.not_true, Bool.not_false]; rfl) (by rfl) (by rfl) (by rfl) (by simp)]
           (simp [-List.map_take, -List.map_drop, aStore, cellsL, settleL, settle, M.bind, Mwp, freezeN, cellishAV, Value.oneCell', setAt, sub, mset_same, mset_ne, List.take_of_length_le, f0, f2, f4, f5, f6, f7, o2, o4, o4c7, o4c8, o4c9])
           try simp only [setAt, cellsL, cellsOf_agg, cellsOf_base, List.map_cons, List.map_nil, List.set_cons_zero, List.set_cons_succ, Nat.reduceAdd, Nat.zero_add, hG]
           exact hK _
          iterate 1 (apply aops_step (by decide) rfl; · (intro K hK; simp (disch := first | omega | decide) only [go_sem, f0, f2, f4, f5, f6, f7, o2, o4, o4c7, o4c8, o4c9, at1_get, Int.toNat_zero, Int.toNat_one, Int.reduceToNat, Bool.not_true, Bool.not_false]; exact hK _))
          refine aops_nil ?_
          refine AW.seq ?_
          refine AW.seq ?_
          have rz := rfN_le (l.drop (rS (at1 l 0) l (rA0 l) k).a)
          refine AW.region (cfg := cfg) ?_
          iterate 2 (apply aops_step (by decide) rfl; · (intro K hK; simp (disch := first | omega | decide) only [go_sem, f0, f2, f4, f5, f6, f7, o2, o4, o4c7, o4c8, o4c9, at1_get, Int.toNat_zero, Int.toNat_one, Int.reduceToNat, Bool.not_true, Bool.not_false]; exact hK _))
          refine aops_nil ?_
          apply AW.cond
          ·(simp only [go_sem, f0, f2, f4, f5, f6, f7, o2, o4, o4c7, o4c8, o4c9, at1_get, Int.toNat_zero, Int.toNat_one, Int.reduceToNat, Bool.not_true, Bool.not_false]; rfl)
          case ht =>
           intro hb
           try simp only [bo1, bo2, bo3, bo4, bo5, bo6] at hb
           have hbt125 := hb
           refine AW.sr (cfg := cfg) ?_
           apply aops_step (by decide) rfl
           ·intro K hK
            simp (disch := first | omega | decide) only [go_sem, f0, f2, f4, f5, f6, f7, o2, o4, o4c7, o4c8, o4c9, act_build_t ti28 pl28, List.map, at1_get, Int.toNat_zero, Int.toNat_one, Int.reduceToNat, Bool.not_true, Bool.not_false]
            simp [-List.map_take, -List.map_drop, fillL, okOne, cellishAV, Value.oneCell', cellsL, cellsOf, setAt, M.bind, Mwp, mset_same, Obj.isArr, o2, o4, o4c7, o4c8, o4c9]
            exact hK _
           apply aops_step0 rfl
           ·intro K hK
            simp (disch := first | omega | decide) only [go_sem, f0, f2, f4, f5, f6, f7, o2, o4, o4c7, o4c8, o4c9, act_store_t ti28, List.map, at1_get, Int.toNat_zero, Int.toNat_one, Int.reduceToNat, Bool.not_true, Bool.not_false]
            rw [mwp_store_c (by simp (disch := first | omega | decide) only [go_sem, f0, f2, f4, f5, f6, f7, o2, o4, o4c7, o4c8, o4c9, at1_get, Int.toNat_zero, Int.toNat_one, Int.reduceToNat, Bool.not_true, Bool.not_false]; rfl) (by rfl) (by rfl) (by rfl) (by simp)]
            (simp [-List.map_take, -List.map_drop, aStore, cellsL, settleL, settle, M.bind, Mwp, freezeN, cellishAV, Value.oneCell', setAt, sub, mset_same, mset_ne, List.take_of_length_le, f0, f2, f4, f5, f6, f7, o2, o4, o4c7, o4c8, o4c9])
            try simp only [setAt, cellsL, cellsOf_agg, cellsOf_base, List.map_cons, List.map_nil, List.set_cons_zero, List.set_cons_succ, Nat.reduceAdd, Nat.zero_add, hG]
            exact hK _
           iterate 1 (apply aops_step (by decide) rfl; · (intro K hK; simp (disch := first | omega | decide) only [go_sem, f0, f2, f4, f5, f6, f7, o2, o4, o4c7, o4c8, o4c9, at1_get, Int.toNat_zero, Int.toNat_one, Int.reduceToNat, Bool.not_true, Bool.not_false]; exact hK _))
           refine aops_nil ?_
           refine AW.ret ?_
           refine ⟨.inr rfl, ?_⟩
           apply Exists.intro
           (have z := rg_n hbt12 (rS_no mo0 hbt115 hta (rfN_z hbt125) hk))
           rw [z]
           refine leaves_mwp2 (rs := [.cell 2 28, .tmp 3]) rfl ?_; simp (config := {failIfUnchanged := false}) [giveL, srcOne, rehome, freezeN, sub, ti28, upd, opn, aLoad, loadL, giveOne, reify, reifyL, readL, readOne, Mwp, M.bind, Mem.set, setAt, cellsL, hG, f0, f2, f4, f5, f6, f7, o2, o4, o4c7, o4c8, o4c9]
           exact ⟨rfl, rfl⟩
          case hf =>
           intro hb
           try simp only [bo1, bo2, bo3, bo4, bo5, bo6] at hb
           have hbt125 := hb
           refine AW.skip ?_
           refine AW.seq ?_
           obtain ⟨rn1, rn2⟩ := rfN_nz hbt125
           refine AW.region (cfg := cfg) ?_
           refine aops_fl (by decide) (by decide) fo28_9 ti26 (by simp (disch := first | omega | decide) only [go_sem, f0, f2, f4, f5, f6, f7, o2, o4, o4c7, o4c8, o4c9, at1_get, Int.toNat_zero, Int.toNat_one, Int.reduceToNat, Bool.not_true, Bool.not_false]; rfl) (by simp (disch := first | omega | decide) only [go_sem, f0, f2, f4, f5, f6, f7, o2, o4, o4c7, o4c8, o4c9, at1_get, Int.toNat_zero, Int.toNat_one, Int.reduceToNat, Bool.not_true, Bool.not_false]; rfl) (by rfl) ?_
           apply aops_step (by decide) rfl
           ·intro K hK
            simp (disch := first | omega | decide) only [go_sem, f0, f2, f4, f5, f6, f7, o2, o4, o4c7, o4c8, o4c9, act_load_t ti79, List.map, at1_get, Int.toNat_zero, Int.toNat_one, Int.reduceToNat, Bool.not_true, Bool.not_false]
            rw [mwp_load_bs (by simp (disch := first | omega | decide) only [go_sem, f0, f2, f4, f5, f6, f7, o2, o4, o4c7, o4c8, o4c9, at1_get, Int.toNat_zero, Int.toNat_one, Int.reduceToNat, Bool.not_true, Bool.not_false]; rfl) (by simp [setAt])]
            try simp only [List.drop_zero, List.drop_succ_cons, List.take_succ_cons, List.take_zero]
            exact hK _
           apply aops_step (by decide) rfl
           ·intro K hK
            rw [act_bs el26 ti79]
            (simp [-List.map_take, -List.map_drop, -BitVec.toNat_ofInt, -BitVec.ofInt_natCast, -BitVec.toNat_setWidth, -BitVec.toNat_ushiftRight, -BitVec.toNat_umod, -BitVec.toNat_udiv, go_sem, elems_v, cellishAV, Value.oneCell', isAggAV, partsOf, TI.z, TI.mk1, f0, f2, f4, f5, f6, f7, o2, o4, o4c7, o4c8, o4c9]; exact hK _)
           apply aops_step (by decide) rfl
           ·intro K hK
            simp (disch := first | omega | decide) only [go_sem, f0, f2, f4, f5, f6, f7, o2, o4, o4c7, o4c8, o4c9, List.map, at1_get, Int.toNat_zero, Int.toNat_one, Int.reduceToNat, Bool.not_true, Bool.not_false]
            apply mwp_append2 el26 ti79 u26
            case hpk => intro Q hQ; (rw [peek_own (by simp (disch := first | omega | decide) only [go_sem, f0, f2, f4, f5, f6, f7, o2, o4, o4c7, o4c8, o4c9, at1_get, Int.toNat_zero, Int.toNat_one, Int.reduceToNat, Bool.not_true, Bool.not_false]; rfl)]; (try rw [sub_full (by rfl)]); exact hQ)
            case hs' => rfl
            case ho => simp (disch := first | omega | decide) only [go_sem, f0, f2, f4, f5, f6, f7, o2, o4, o4c7, o4c8, o4c9, at1_get, Int.toNat_zero, Int.toNat_one, Int.reduceToNat, Bool.not_true, Bool.not_false]; rfl
            case hsz => rfl
            case hhi => (simp; done)
            case hb => (simp [sub, roomB]; omega)
            case hy => exact all_cells rfl
            case k => (try simp only [List.nil_append, ← List.map_append, Bool.false_and]); exact hK _
           apply aops_step (by decide) rfl
           ·intro K hK
            simp (disch := first | omega | decide) only [go_sem, f0, f2, f4, f5, f6, f7, o2, o4, o4c7, o4c8, o4c9, act_fieldAddr_t fo28_9, List.map, at1_get, Int.toNat_zero, Int.toNat_one, Int.reduceToNat, Bool.not_true, Bool.not_false]
            rw [mwp_fieldAddr_b (by simp (disch := first | omega | decide) only [go_sem, f0, f2, f4, f5, f6, f7, o2, o4, o4c7, o4c8, o4c9, at1_get, Int.toNat_zero, Int.toNat_one, Int.reduceToNat, Bool.not_true, Bool.not_false]; rfl)]
            exact hK _
           apply aops_step0 rfl
           ·intro K hK
            simp (disch := first | omega | decide) only [go_sem, f0, f2, f4, f5, f6, f7, o2, o4, o4c7, o4c8, o4c9, act_store_t ti26, List.map, at1_get, Int.toNat_zero, Int.toNat_one, Int.reduceToNat, Bool.not_true, Bool.not_false]
            rw [mwp_store_o (by simp (disch := first | omega | decide) only [go_sem, f0, f2, f4, f5, f6, f7, o2, o4, o4c7, o4c8, o4c9, at1_get, Int.toNat_zero, Int.toNat_one, Int.reduceToNat, Bool.not_true, Bool.not_false]; rfl) (by simp (disch := first | omega | decide) only [go_sem, f0, f2, f4, f5, f6, f7, o2, o4, o4c7, o4c8, o4c9, at1_get, Int.toNat_zero, Int.toNat_one, Int.reduceToNat, Bool.not_true, Bool.not_false]; rfl) (by decide) (by simp)]
            (simp [-List.map_take, -List.map_drop, aStore, cellsL, settleL, settle, M.bind, Mwp, freezeN, cellishAV, Value.oneCell', setAt, sub, mset_same, mset_ne, List.take_of_length_le, f0, f2, f4, f5, f6, f7, o2, o4, o4c7, o4c8, o4c9])
            try simp only [setAt, cellsL, cellsOf_agg, cellsOf_base, List.map_cons, List.map_nil, List.set_cons_zero, List.set_cons_succ, Nat.reduceAdd, Nat.zero_add, hG]
            exact hK _
           refine aops_nil ?_
           refine AW.region (cfg := cfg) ?_
           iterate 4 (apply aops_step (by decide) rfl; · (intro K hK; simp (disch := first | omega | decide) only [go_sem, f0, f2, f4, f5, f6, f7, o2, o4, o4c7, o4c8, o4c9, at1_get, Int.toNat_zero, Int.toNat_one, Int.reduceToNat, Bool.not_true, Bool.not_false]; exact hK _))
           refine aops_nil ?_
           refine AW.region (cfg := cfg) ?_
           iterate 3 (apply aops_step (by decide) rfl; · (intro K hK; simp (disch := first | omega | decide) only [go_sem, f0, f2, f4, f5, f6, f7, o2, o4, o4c7, o4c8, o4c9, at1_get, Int.toNat_zero, Int.toNat_one, Int.reduceToNat, Bool.not_true, Bool.not_false]; exact hK _))
           refine aops_nil ?_
           refine ⟨_, _, rfl, ?_, ?_, ?_, ?_, ?_, ?_, ?_, ?_, ?_, ?_, ?_, ?_, (by intro i; simp [Mem.set, hr]), (by exact hG)⟩ <;> try simp (disch := first | omega | decide) only [go_sem, f0, f2, f4, f5, f6, f7, o2, o4, o4c7, o4c8, o4c9, at1_get, Int.toNat_zero, Int.toNat_one, Int.reduceToNat, Bool.not_true, Bool.not_false]
           all_goals first | rfl | exact (rS_4 mo0 hbt115 hta rn1).1 | (simp only [(rS_4 mo0 hbt115 hta rn1).2]; done) | (simp only [(rS_4 mo0 hbt115 hta rn1).2]; simp [lsaA]; done) | (simp only [(rS_4 mo0 hbt115 hta rn1).2]; exact congrArg (fun z => LV.v (i64 z)) (by omega))
         case hf =>
          intro hb
          try simp only [bo1, bo2, bo3, bo4, bo5, bo6] at hb
          have hbt115 := hb
          refine AW.seq ?_
          have gr8 := good_num nil l ((rS (at1 l 0) l (rA0 l) k).a + 1) (by omega) (by omega) 8
          rw [show (((rS (at1 l 0) l (rA0 l) k).a + 1 : Nat) : Int) = ((rS (at1 l 0) l (rA0 l) k).a : Int) + 1 by omega] at gr8
          refine AW.draw (cfg := cfg) (by kernel_rfl) (by kernel_rfl) (by kernel_rfl) ?_
          apply adraw_step rfl
          ·intro K hK
           simp (disch := first | omega | decide) only [go_sem, f0, f2, f4, f5, f6, f7, o2, o4, o4c7, o4c8, o4c9, act_fieldAddr_t fo28_8, List.map, at1_get, Int.toNat_zero, Int.toNat_one, Int.reduceToNat, Bool.not_true, Bool.not_false]
           rw [mwp_fieldAddr_b (by simp only [go_sem, f0, f2, f4, f5, f6, f7, o2, o4, o4c7, o4c8, o4c9, at1_get, Int.toNat_zero, Int.toNat_one, Int.reduceToNat, Bool.not_true, Bool.not_false]; rfl)]
           exact hK
          apply adraw_step rfl
          ·intro K hK
           simp (disch := first | omega | decide) only [go_sem, f0, f2, f4, f5, f6, f7, o2, o4, o4c7, o4c8, o4c9, act_load_t ti25, List.map, at1_get, Int.toNat_zero, Int.toNat_one, Int.reduceToNat, Bool.not_true, Bool.not_false]
           rw [mwp_load_b1 (by simp only [go_sem, f0, f2, f4, f5, f6, f7, o2, o4, o4c7, o4c8, o4c9, at1_get, Int.toNat_zero, Int.toNat_one, Int.reduceToNat, Bool.not_true, Bool.not_false]; rfl) (by rfl)]
           exact hK
          iterate 2 (apply adraw_step rfl; · (intro K hK; simp (disch := first | omega | decide) only [go_sem, f0, f2, f4, f5, f6, f7, o2, o4, o4c7, o4c8, o4c9, at1_get, Int.toNat_zero, Int.toNat_one, Int.reduceToNat, Bool.not_true, Bool.not_false]; exact hK))
          apply adraw_step rfl
          ·intro K hK
           simp (disch := first | omega | decide) only [go_sem, f0, f2, f4, f5, f6, f7, o2, o4, o4c7, o4c8, o4c9, act_indexAddr_s u22 ti5, List.map, at1_get, Int.toNat_zero, Int.toNat_one, Int.reduceToNat, Bool.not_true, Bool.not_false]
           skip
           exact hK
          apply adraw_step rfl
          ·intro K hK
           simp (disch := first | omega | decide) only [go_sem, f0, f2, f4, f5, f6, f7, o2, o4, o4c7, o4c8, o4c9, act_load_t ti5, List.map, at1_get, Int.toNat_zero, Int.toNat_one, Int.reduceToNat, Bool.not_true, Bool.not_false]
           skip
           exact hK
          iterate 4 (apply adraw_step rfl; · (intro K hK; simp (disch := first | omega | decide) only [go_sem, f0, f2, f4, f5, f6, f7, o2, o4, o4c7, o4c8, o4c9, act_convI u5 u3, at1_get, Int.toNat_zero, Int.toNat_one, Int.reduceToNat, Bool.not_true, Bool.not_false]; exact hK))
          apply adraw_step rfl
          ·intro K hK
           simp (disch := first | omega | decide) only [go_sem, f0, f2, f4, f5, f6, f7, o2, o4, o4c7, o4c8, o4c9, act_call, List.map, at1_get, Int.toNat_zero, Int.toNat_one, Int.reduceToNat, Bool.not_true, Bool.not_false]
           apply mwp_call_s rfl rfl rfl
           ·intro Q hQ
            (simp (disch := first | omega | decide) only [go_sem, f0, f2, f4, f5, f6, f7, o2, o4, o4c7, o4c8, o4c9, peekL, reifyL_nil, reifyL_cons, reify_v, at1_get, Int.toNat_zero, Int.toNat_one, Int.reduceToNat, Bool.not_true, Bool.not_false]; (exact hQ))
           ·exact gr8
           ·simp [-List.map_take, -List.map_drop, -List.map_append, -List.map_replicate, -List.reduceReplicate, noPtrL, noPtr, noPtrL_bsl, noPtrL_map, sub]
           ·rfl
           ·exact hK
          apply adraw_step rfl
          ·intro K hK
           simp (disch := first | omega | decide) only [go_sem, f0, f2, f4, f5, f6, f7, o2, o4, o4c7, o4c8, o4c9, act_build_t ti76 pl76, List.map, at1_get, Int.toNat_zero, Int.toNat_one, Int.reduceToNat, Bool.not_true, Bool.not_false]
           simp [-List.map_take, -List.map_drop, fillL, okOne, cellishAV, Value.oneCell', cellsL, cellsOf, setAt, M.bind, Mwp, mset_same, Obj.isArr, o2, o4, o4c7, o4c8, o4c9]
           exact hK
          apply adraw_step rfl
          ·intro K hK
           rw [act_bs el25 ti76]
           (simp [-List.map_take, -List.map_drop, -BitVec.toNat_ofInt, -BitVec.ofInt_natCast, -BitVec.toNat_setWidth, -BitVec.toNat_ushiftRight, -BitVec.toNat_umod, -BitVec.toNat_udiv, go_sem, elems_v, cellishAV, Value.oneCell', isAggAV, partsOf, TI.z, TI.mk1, f0, f2, f4, f5, f6, f7, o2, o4, o4c7, o4c8, o4c9]; exact hK)
          apply adraw_step rfl
          ·intro K hK
           simp (disch := first | omega | decide) only [go_sem, f0, f2, f4, f5, f6, f7, o2, o4, o4c7, o4c8, o4c9, List.map, at1_get, Int.toNat_zero, Int.toNat_one, Int.reduceToNat, Bool.not_true, Bool.not_false]
           apply mwp_append2 el25 ti76 u25
           case hpk => intro Q hQ; (rw [peek_own (by simp (disch := first | omega | decide) only [go_sem, f0, f2, f4, f5, f6, f7, o2, o4, o4c7, o4c8, o4c9, at1_get, Int.toNat_zero, Int.toNat_one, Int.reduceToNat, Bool.not_true, Bool.not_false]; rfl)]; (try rw [sub_full (by rfl)]); exact hQ)
           case hs' => rfl
           case ho => simp (disch := first | omega | decide) only [go_sem, f0, f2, f4, f5, f6, f7, o2, o4, o4c7, o4c8, o4c9, at1_get, Int.toNat_zero, Int.toNat_one, Int.reduceToNat, Bool.not_true, Bool.not_false]; rfl
           case hsz => rfl
           case hhi => (simp; done)
           case hb => (simp [sub, roomB]; omega)
           case hy => exact all_cells rfl
           case k => (try simp only [List.nil_append, ← List.map_append, Bool.false_and]); exact hK
          apply adraw_step rfl
          ·intro K hK
           simp (disch := first | omega | decide) only [go_sem, f0, f2, f4, f5, f6, f7, o2, o4, o4c7, o4c8, o4c9, act_fieldAddr_t fo28_8, List.map, at1_get, Int.toNat_zero, Int.toNat_one, Int.reduceToNat, Bool.not_true, Bool.not_false]
           rw [mwp_fieldAddr_b (by simp (disch := first | omega | decide) only [go_sem, f0, f2, f4, f5, f6, f7, o2, o4, o4c7, o4c8, o4c9, at1_get, Int.toNat_zero, Int.toNat_one, Int.reduceToNat, Bool.not_true, Bool.not_false]; rfl)]
           exact hK
          apply adraw_step0 rfl
          ·intro K hK
           simp (disch := first | omega | decide) only [go_sem, f0, f2, f4, f5, f6, f7, o2, o4, o4c7, o4c8, o4c9, act_store_t ti25, List.map, at1_get, Int.toNat_zero, Int.toNat_one, Int.reduceToNat, Bool.not_true, Bool.not_false]
           rw [mwp_store_o (by simp (disch := first | omega | decide) only [go_sem, f0, f2, f4, f5, f6, f7, o2, o4, o4c7, o4c8, o4c9, at1_get, Int.toNat_zero, Int.toNat_one, Int.reduceToNat, Bool.not_true, Bool.not_false]; rfl) (by simp (disch := first | omega | decide) only [go_sem, f0, f2, f4, f5, f6, f7, o2, o4, o4c7, o4c8, o4c9, at1_get, Int.toNat_zero, Int.toNat_one, Int.reduceToNat, Bool.not_true, Bool.not_false]; rfl) (by decide) (by simp)]
           (simp [-List.map_take, -List.map_drop, aStore, cellsL, settleL, settle, M.bind, Mwp, freezeN, cellishAV, Value.oneCell', setAt, sub, mset_same, mset_ne, List.take_of_length_le, f0, f2, f4, f5, f6, f7, o2, o4, o4c7, o4c8, o4c9])
           try simp only [setAt, cellsL, cellsOf_agg, cellsOf_base, List.map_cons, List.map_nil, List.set_cons_zero, List.set_cons_succ, Nat.reduceAdd, Nat.zero_add, hG]
           exact hK
          refine adraw_nil (by kernel_rfl) ?_
          refine AW.region (cfg := cfg) ?_
          iterate 3 (apply aops_step (by decide) rfl; · (intro K hK; simp (disch := first | omega | decide) only [go_sem, f0, f2, f4, f5, f6, f7, o2, o4, o4c7, o4c8, o4c9, at1_get, Int.toNat_zero, Int.toNat_one, Int.reduceToNat, Bool.not_true, Bool.not_false]; exact hK _))
          refine aops_nil ?_
          refine AW.region (cfg := cfg) ?_
          iterate 3 (apply aops_step (by decide) rfl; · (intro K hK; simp (disch := first | omega | decide) only [go_sem, f0, f2, f4, f5, f6, f7, o2, o4, o4c7, o4c8, o4c9, at1_get, Int.toNat_zero, Int.toNat_one, Int.reduceToNat, Bool.not_true, Bool.not_false]; exact hK _))
          refine aops_nil ?_
          refine ⟨_, _, rfl, ?_, ?_, ?_, ?_, ?_, ?_, ?_, ?_, ?_, ?_, ?_, ?_, (by intro i; simp [Mem.set, hr]), (by exact hG)⟩ <;> try simp (disch := first | omega | decide) only [go_sem, f0, f2, f4, f5, f6, f7, o2, o4, o4c7, o4c8, o4c9, at1_get, Int.toNat_zero, Int.toNat_one, Int.reduceToNat, Bool.not_true, Bool.not_false]
          all_goals first | rfl | exact (rS_2 mo0 ⟨hbt96, hbt115⟩ hta).1 | (simp only [(rS_2 mo0 ⟨hbt96, hbt115⟩ hta).2]; done) | (simp only [(rS_2 mo0 ⟨hbt96, hbt115⟩ hta).2]; rfl) | (simp only [(rS_2 mo0 ⟨hbt96, hbt115⟩ hta).2]; simp [rItem, linkA]; done)
       case hf =>
        intro hb
        try simp only [bo1, bo2, bo3, bo4, bo5, bo6] at hb
        have hbt74 := hb
        refine AW.exit ?_
        refine ⟨_, _, ?_, rfl, ?_, ?_, ?_, ?_, ?_, ?_, ?_, ?_, ?_, (by intro i; simp [Mem.set, hr]), (by exact hG)⟩ <;> try simp (disch := first | omega | decide) only [go_sem, f0, f2, f4, f5, f6, f7, o2, o4, o4c7, o4c8, o4c9, at1_get, Int.toNat_zero, Int.toNat_one, Int.reduceToNat, Bool.not_true, Bool.not_false]
        all_goals first | rfl | exact rS_end mo0 (Nat.le_of_lt hk) (by have := hbt74; omega) | skip
      ·clear f0 f2 f4 f5 f6 o2 o4 hr hG
       rintro σ ⟨s, m, rfl, f0, f2, o2, f4, o4, o4c7, o4c8, o4c9, f5, f6, f7, mo0, hr, hG⟩
       obtain ⟨g2, o2⟩ : ∃ g, m.objs (.tmp 2 0) = (g, .box [.v (i64 0), .v (i64 0), .v (i64 0), .v (i64 0), .v (i64 0), .v (i64 0), .v (i64 0), .v (.sl 2 true []), .v (.sl 2 true []), .v (.sl 3 true [])]) := ⟨_, Prod.ext rfl o2⟩
       rw [o2] at f2
       obtain ⟨g4c7, o4c7⟩ : ∃ g, m.objs (.cell 4 7) = (g, .arr (rS (at1 l 0) l (rA0 l) ((rMany l).toNat)).hs.isEmpty 2 ((rS (at1 l 0) l (rA0 l) ((rMany l).toNat)).hs.map linkA)) := ⟨_, Prod.ext rfl o4c7⟩
       rw [o4c7] at o4
       obtain ⟨g4c8, o4c8⟩ : ∃ g, m.objs (.cell 4 8) = (g, .arr (rS (at1 l 0) l (rA0 l) ((rMany l).toNat)).xs.isEmpty 2 ((rS (at1 l 0) l (rA0 l) ((rMany l).toNat)).xs.map linkA)) := ⟨_, Prod.ext rfl o4c8⟩
       rw [o4c8] at o4
       obtain ⟨g4c9, o4c9⟩ : ∃ g, m.objs (.cell 4 9) = (g, .arr (rS (at1 l 0) l (rA0 l) ((rMany l).toNat)).ls.isEmpty 3 ((rS (at1 l 0) l (rA0 l) ((rMany l).toNat)).ls.map lsaA)) := ⟨_, Prod.ext rfl o4c9⟩
       rw [o4c9] at o4
       simp only at o4
       obtain ⟨g4, o4⟩ : ∃ g, m.objs (.tmp 4 0) = (g, .box [.v (i64 (at1 l 0)), .v (i64 (at1 l 1)), .v (i64 (rV l 2 false 4)), .v (i64 (at1 l 6)), .v (i64 (rV l 7 false 4)), .v (i64 (rEp l)), .v (i64 (rTe l)), .own (.cell 4 7) g4c7 0 (rS (at1 l 0) l (rA0 l) ((rMany l).toNat)).hs.length, .own (.cell 4 8) g4c8 0 (rS (at1 l 0) l (rA0 l) ((rMany l).toNat)).xs.length, .own (.cell 4 9) g4c9 0 (rS (at1 l 0) l (rA0 l) ((rMany l).toNat)).ls.length]) := ⟨_, Prod.ext rfl o4⟩
       rw [o4] at f4
       refine AW.seq ?_
       refine AW.sr (cfg := cfg) ?_
       iterate 4 (apply aops_step (by decide) rfl; · (intro K hK; simp (disch := first | omega | decide) only [go_sem, f0, f2, f4, f5, f6, f7, o2, o4, o4c7, o4c8, o4c9, at1_get, Int.toNat_zero, Int.toNat_one, Int.reduceToNat, Bool.not_true, Bool.not_false]; exact hK _))
       apply aops_merge' (by decide) (by exact want_of (d := 69) rfl (by simp only [go_sem, f0, f2, f4, f5, f6, f7, o2, o4, o4c7, o4c8, o4c9, opn_cond, at1_get, Int.toNat_zero, Int.toNat_one, Int.reduceToNat, Bool.not_true, Bool.not_false]; rfl))
       ·intro hc K hK
        simp (disch := first | omega | decide) only [go_sem, f0, f2, f4, f5, f6, f7, o2, o4, o4c7, o4c8, o4c9, opn_cond, hc, if_true, at1_get, Int.toNat_zero, Int.toNat_one, Int.reduceToNat, Bool.not_true, Bool.not_false]
        exact hK _
       apply aops_merge' (by decide) (by exact want_of (d := 69) rfl (by simp (disch := first | omega | decide) only [go_sem, f0, f2, f4, f5, f6, f7, o2, o4, o4c7, o4c8, o4c9, opn_cond, at1_get, Int.toNat_zero, Int.toNat_one, Int.reduceToNat, Bool.not_true, Bool.not_false]; rfl))
       ·intro hc K hK
        simp (disch := first | omega | decide) only [go_sem, f0, f2, f4, f5, f6, f7, o2, o4, o4c7, o4c8, o4c9, opn_cond, hc, if_true, at1_get, Int.toNat_zero, Int.toNat_one, Int.reduceToNat, Bool.not_true, Bool.not_false]
        exact hK _
       apply aops_merge' (by decide) (by exact want_of (d := 69) rfl (by simp (disch := first | omega | decide) only [go_sem, f0, f2, f4, f5, f6, f7, o2, o4, o4c7, o4c8, o4c9, opn_cond, at1_get, Int.toNat_zero, Int.toNat_one, Int.reduceToNat, Bool.not_true, Bool.not_false]; rfl))
       ·intro hc K hK
        simp (disch := first | omega | decide) only [go_sem, f0, f2, f4, f5, f6, f7, o2, o4, o4c7, o4c8, o4c9, opn_cond, hc, if_true, List.map, List.length_map, aops_len u22, at1_get, Int.toNat_zero, Int.toNat_one, Int.reduceToNat, Bool.not_true, Bool.not_false]
        exact hK _
       apply aops_merge' (by decide) (by exact want_of (d := 69) rfl (by simp (disch := first | omega | decide) only [go_sem, f0, f2, f4, f5, f6, f7, o2, o4, o4c7, o4c8, o4c9, opn_cond, at1_get, Int.toNat_zero, Int.toNat_one, Int.reduceToNat, Bool.not_true, Bool.not_false]; rfl))
       ·intro hc K hK
        simp (disch := first | omega | decide) only [go_sem, f0, f2, f4, f5, f6, f7, o2, o4, o4c7, o4c8, o4c9, opn_cond, hc, if_true, at1_get, Int.toNat_zero, Int.toNat_one, Int.reduceToNat, Bool.not_true, Bool.not_false]
        exact hK _
       iterate 1 (apply aops_step (by decide) rfl; · (intro K hK; simp (disch := first | omega | decide) only [go_sem, f0, f2, f4, f5, f6, f7, o2, o4, o4c7, o4c8, o4c9, at1_get, Int.toNat_zero, Int.toNat_one, Int.reduceToNat, Bool.not_true, Bool.not_false]; exact hK _))
       refine aops_nil ?_
       apply AW.cond
       ·(simp only [go_sem, f0, f2, f4, f5, f6, f7, o2, o4, o4c7, o4c8, o4c9, at1_get, Int.toNat_zero, Int.toNat_one, Int.reduceToNat, Bool.not_true, Bool.not_false]; rfl)
       case ht => intro hb; (simp at hb; omega)
       case hf =>
       intro hb
       have hbt74 := hb
       refine AW.exit ?_
       refine ⟨_, _, ?_, rfl, ?_, ?_, ?_, ?_, ?_, ?_, ?_, ?_, ?_, (by intro i; simp [Mem.set, hr]), (by exact hG)⟩ <;> try simp (disch := first | omega | decide) only [go_sem, f0, f2, f4, f5, f6, f7, o2, o4, o4c7, o4c8, o4c9, at1_get, Int.toNat_zero, Int.toNat_one, Int.reduceToNat, Bool.not_true, Bool.not_false]
       all_goals first | rfl | exact rS_end mo0 (Nat.le_refl _) (Or.inl rfl) | skip
     ·clear f0 f2 f4 f5 f6 o2 o4 hr hG
      rintro σ ⟨s, m, u, rfl, f0, f2, o2, f4, o4, o4c7, o4c8, o4c9, mo0, hr, hG⟩
      obtain ⟨g2, o2⟩ : ∃ g, m.objs (.tmp 2 0) = (g, .box [.v (i64 0), .v (i64 0), .v (i64 0), .v (i64 0), .v (i64 0), .v (i64 0), .v (i64 0), .v (.sl 2 true []), .v (.sl 2 true []), .v (.sl 3 true [])]) := ⟨_, Prod.ext rfl o2⟩
      rw [o2] at f2
      obtain ⟨g4c7, o4c7⟩ : ∃ g, m.objs (.cell 4 7) = (g, .arr u.hs.isEmpty 2 (u.hs.map linkA)) := ⟨_, Prod.ext rfl o4c7⟩
      rw [o4c7] at o4
      obtain ⟨g4c8, o4c8⟩ : ∃ g, m.objs (.cell 4 8) = (g, .arr u.xs.isEmpty 2 (u.xs.map linkA)) := ⟨_, Prod.ext rfl o4c8⟩
      rw [o4c8] at o4
      obtain ⟨g4c9, o4c9⟩ : ∃ g, m.objs (.cell 4 9) = (g, .arr u.ls.isEmpty 3 (u.ls.map lsaA)) := ⟨_, Prod.ext rfl o4c9⟩
      rw [o4c9] at o4
      simp only at o4
      obtain ⟨g4, o4⟩ : ∃ g, m.objs (.tmp 4 0) = (g, .box [.v (i64 (at1 l 0)), .v (i64 (at1 l 1)), .v (i64 (rV l 2 false 4)), .v (i64 (at1 l 6)), .v (i64 (rV l 7 false 4)), .v (i64 (rEp l)), .v (i64 (rTe l)), .own (.cell 4 7) g4c7 0 u.hs.length, .own (.cell 4 8) g4c8 0 u.xs.length, .own (.cell 4 9) g4c9 0 u.ls.length]) := ⟨_, Prod.ext rfl o4⟩
      rw [o4] at f4
      refine AW.seq ?_
      refine AW.seq ?_
      obtain ⟨i1, i2, i3, i4, i5⟩ := rloop_bd (rA0_le l) (show rloop (at1 l 0) l (rA0 l) (rMany l).toNat = some u from mo0)
      rcases okp_way (rMk l u) with hp | hp
      ·skip
       have hq := hp
       obtain ⟨i1, i2, i3, i4, i5⟩ := rloop_bd (rA0_le l) (show rloop (at1 l 0) l (rA0 l) (rMany l).toNat = some u from mo0)
       refine AW.region (cfg := cfg) ?_
       apply aops_step (by decide) rfl
       ·intro K hK
        simp (disch := first | omega | decide) only [go_sem, f0, f2, f4, o2, o4, o4c7, o4c8, o4c9, hp, act_load_t ti28, List.map, at1_get, Int.toNat_zero, Int.toNat_one, Int.reduceToNat, Bool.not_true, Bool.not_false]
        rw [mwp_load_bs (by simp (disch := first | omega | decide) only [go_sem, f0, f2, f4, o2, o4, o4c7, o4c8, o4c9, hp, at1_get, Int.toNat_zero, Int.toNat_one, Int.reduceToNat, Bool.not_true, Bool.not_false]; rfl) (by simp [setAt])]
        try simp only [List.drop_zero, List.drop_succ_cons, List.take_succ_cons, List.take_zero]
        exact hK _
       apply aops_step (by decide) rfl
       ·intro K hK
        simp (disch := first | omega | decide) only [go_sem, f0, f2, f4, o2, o4, o4c7, o4c8, o4c9, hp, act_call, List.map, at1_get, Int.toNat_zero, Int.toNat_one, Int.reduceToNat, Bool.not_true, Bool.not_false]
        apply mwp_call_s rfl rfl rfl
        ·intro Q hQ
         ((try simp only [opn_agg, opn_own, opn_v]); (try simp only [List.drop_zero, List.drop_succ_cons, List.take_succ_cons, List.take_zero]); (repeat (first | rw [mwp_peekL_agg] | rw [mwp_peekL_v] | rw [mwp_peekL_arr (by simp only [go_sem, f0, f2, f4, o2, o4, o4c7, o4c8, o4c9, hp, at1_get, Int.toNat_zero, Int.toNat_one, Int.reduceToNat, Bool.not_true, Bool.not_false]; rfl)] | rw [mwp_peekL_nil])); (repeat (rw [sub_full (by (simp only [List.length_map, List.length_replicate]; done))])); exact hQ)
        ·exact good_refMay14 (rMk l u) (by show u.hs.length ≤ _; omega) (by show u.xs.length ≤ _; omega) (by show u.ls.length ≤ _; omega) (fun x hx => by have := i4 x hx; omega)
        ·simp [-List.map_take, -List.map_drop, -List.map_append, -List.map_replicate, -List.reduceReplicate, noPtrL, noPtr, noPtrL_bsl, noPtrL_map, sub]
        ·rfl
        ·exact hK _
       iterate 2 (apply aops_step (by decide) rfl; · (intro K hK; simp (disch := first | omega | decide) only [go_sem, f0, f2, f4, o2, o4, o4c7, o4c8, o4c9, hp, at1_get, Int.toNat_zero, Int.toNat_one, Int.reduceToNat, Bool.not_true, Bool.not_false]; exact hK _))
       apply aops_skip' (by decide) rfl
       apply aops_skip' (by decide) rfl
       apply aops_skip' (by decide) rfl
       apply aops_skip' (by decide) rfl
       apply aops_skip' (by decide) rfl
       iterate 1 (apply aops_step (by decide) rfl; · (intro K hK; simp (disch := first | omega | decide) only [go_sem, f0, f2, f4, o2, o4, o4c7, o4c8, o4c9, hp, at1_get, Int.toNat_zero, Int.toNat_one, Int.reduceToNat, Bool.not_true, Bool.not_false]; exact hK _))
       refine aops_nil ?_
       apply AW.cond
       ·(simp only [go_sem, f0, f2, f4, o2, o4, o4c7, o4c8, o4c9, hp, at1_get, Int.toNat_zero, Int.toNat_one, Int.reduceToNat, Bool.not_true, Bool.not_false]; rfl)
       case hf => intro hb; (simp at hb; done)
       case ht =>
       intro hb
       have hbt145 := hb
       refine AW.sr (cfg := cfg) ?_
       apply aops_step (by decide) rfl
       ·intro K hK
        simp (disch := first | omega | decide) only [go_sem, f0, f2, f4, o2, o4, o4c7, o4c8, o4c9, hp, act_build_t ti28 pl28, List.map, at1_get, Int.toNat_zero, Int.toNat_one, Int.reduceToNat, Bool.not_true, Bool.not_false]
        simp [-List.map_take, -List.map_drop, fillL, okOne, cellishAV, Value.oneCell', cellsL, cellsOf, setAt, M.bind, Mwp, mset_same, Obj.isArr, o2, o4, o4c7, o4c8, o4c9]
        exact hK _
       apply aops_step0 rfl
       ·intro K hK
        simp (disch := first | omega | decide) only [go_sem, f0, f2, f4, o2, o4, o4c7, o4c8, o4c9, hp, act_store_t ti28, List.map, at1_get, Int.toNat_zero, Int.toNat_one, Int.reduceToNat, Bool.not_true, Bool.not_false]
        rw [mwp_store_c (by simp (disch := first | omega | decide) only [go_sem, f0, f2, f4, o2, o4, o4c7, o4c8, o4c9, hp, at1_get, Int.toNat_zero, Int.toNat_one, Int.reduceToNat, Bool.not_true, Bool.not_false]; rfl) (by rfl) (by rfl) (by rfl) (by simp)]
        (simp [-List.map_take, -List.map_drop, aStore, cellsL, settleL, settle, M.bind, Mwp, freezeN, cellishAV, Value.oneCell', setAt, sub, mset_same, mset_ne, List.take_of_length_le, f0, f2, f4, o2, o4, o4c7, o4c8, o4c9, hp])
        try simp only [setAt, cellsL, cellsOf_agg, cellsOf_base, List.map_cons, List.map_nil, List.set_cons_zero, List.set_cons_succ, Nat.reduceAdd, Nat.zero_add, hG]
        exact hK _
       iterate 1 (apply aops_step (by decide) rfl; · (intro K hK; simp (disch := first | omega | decide) only [go_sem, f0, f2, f4, o2, o4, o4c7, o4c8, o4c9, hp, at1_get, Int.toNat_zero, Int.toNat_one, Int.reduceToNat, Bool.not_true, Bool.not_false]; exact hK _))
       refine aops_nil ?_
       refine AW.ret ?_
       refine ⟨.inr rfl, ?_⟩
       apply Exists.intro
       (have z := rg_f hbt12 mo0 (by rw [hp]; rfl))
       rw [z]
       refine leaves_mwp2 (rs := [.cell 2 28, .tmp 3]) rfl ?_; simp (config := {failIfUnchanged := false}) [giveL, srcOne, rehome, freezeN, sub, ti28, upd, opn, aLoad, loadL, giveOne, reify, reifyL, readL, readOne, Mwp, M.bind, Mem.set, setAt, cellsL, hG, f0, f2, f4, o2, o4, o4c7, o4c8, o4c9, hp]
       exact ⟨rfl, rfl⟩
      ·skip
       have hq := ps_len hp
       obtain ⟨i1, i2, i3, i4, i5⟩ := rloop_bd (rA0_le l) (show rloop (at1 l 0) l (rA0 l) (rMany l).toNat = some u from mo0)
       refine AW.region (cfg := cfg) ?_
       apply aops_step (by decide) rfl
       ·intro K hK
        simp (disch := first | omega | decide) only [go_sem, f0, f2, f4, o2, o4, o4c7, o4c8, o4c9, hp, act_load_t ti28, List.map, at1_get, Int.toNat_zero, Int.toNat_one, Int.reduceToNat, Bool.not_true, Bool.not_false]
        rw [mwp_load_bs (by simp (disch := first | omega | decide) only [go_sem, f0, f2, f4, o2, o4, o4c7, o4c8, o4c9, hp, at1_get, Int.toNat_zero, Int.toNat_one, Int.reduceToNat, Bool.not_true, Bool.not_false]; rfl) (by simp [setAt])]
        try simp only [List.drop_zero, List.drop_succ_cons, List.take_succ_cons, List.take_zero]
        exact hK _
       apply aops_step (by decide) rfl
       ·intro K hK
        simp (disch := first | omega | decide) only [go_sem, f0, f2, f4, o2, o4, o4c7, o4c8, o4c9, hp, act_call, List.map, at1_get, Int.toNat_zero, Int.toNat_one, Int.reduceToNat, Bool.not_true, Bool.not_false]
        apply mwp_call_s rfl rfl rfl
        ·intro Q hQ
         ((try simp only [opn_agg, opn_own, opn_v]); (try simp only [List.drop_zero, List.drop_succ_cons, List.take_succ_cons, List.take_zero]); (repeat (first | rw [mwp_peekL_agg] | rw [mwp_peekL_v] | rw [mwp_peekL_arr (by simp only [go_sem, f0, f2, f4, o2, o4, o4c7, o4c8, o4c9, hp, at1_get, Int.toNat_zero, Int.toNat_one, Int.reduceToNat, Bool.not_true, Bool.not_false]; rfl)] | rw [mwp_peekL_nil])); (repeat (rw [sub_full (by (simp only [List.length_map, List.length_replicate]; done))])); exact hQ)
        ·exact good_refMay14 (rMk l u) (by show u.hs.length ≤ _; omega) (by show u.xs.length ≤ _; omega) (by show u.ls.length ≤ _; omega) (fun x hx => by have := i4 x hx; omega)
        ·simp [-List.map_take, -List.map_drop, -List.map_append, -List.map_replicate, -List.reduceReplicate, noPtrL, noPtr, noPtrL_bsl, noPtrL_map, sub]
        ·rfl
        ·exact hK _
       iterate 2 (apply aops_step (by decide) rfl; · (intro K hK; simp (disch := first | omega | decide) only [go_sem, f0, f2, f4, o2, o4, o4c7, o4c8, o4c9, hp, at1_get, Int.toNat_zero, Int.toNat_one, Int.reduceToNat, Bool.not_true, Bool.not_false]; exact hK _))
       apply aops_step (by decide) rfl
       ·intro K hK
        simp (disch := first | omega | decide) only [go_sem, f0, f2, f4, o2, o4, o4c7, o4c8, o4c9, hp, act_load_t ti28, List.map, at1_get, Int.toNat_zero, Int.toNat_one, Int.reduceToNat, Bool.not_true, Bool.not_false]
        rw [mwp_load_bs (by simp (disch := first | omega | decide) only [go_sem, f0, f2, f4, o2, o4, o4c7, o4c8, o4c9, hp, at1_get, Int.toNat_zero, Int.toNat_one, Int.reduceToNat, Bool.not_true, Bool.not_false]; rfl) (by simp [setAt])]
        try simp only [List.drop_zero, List.drop_succ_cons, List.take_succ_cons, List.take_zero]
        exact hK _
       apply aops_step (by decide) rfl
       ·intro K hK
        simp (disch := first | omega | decide) only [go_sem, f0, f2, f4, o2, o4, o4c7, o4c8, o4c9, hp, act_call, List.map, at1_get, Int.toNat_zero, Int.toNat_one, Int.reduceToNat, Bool.not_true, Bool.not_false]
        apply mwp_call_r rfl rfl rfl
        ·intro Q hQ
         ((try simp only [opn_agg, opn_own, opn_v]); (try simp only [List.drop_zero, List.drop_succ_cons, List.take_succ_cons, List.take_zero]); (repeat (first | rw [mwp_reifyL_agg] | rw [mwp_reifyL_v] | rw [mwp_reifyL_arr (by simp only [go_sem, f0, f2, f4, o2, o4, o4c7, o4c8, o4c9, hp, at1_get, Int.toNat_zero, Int.toNat_one, Int.reduceToNat, Bool.not_true, Bool.not_false]; rfl)] | rw [mwp_reifyL_arr (by simp (disch := first | omega | decide) only [go_sem, f0, f2, f4, o2, o4, o4c7, o4c8, o4c9, hp, at1_get, Int.toNat_zero, Int.toNat_one, Int.reduceToNat, Bool.not_true, Bool.not_false]; rfl)] | rw [mwp_reifyL_nil])); (repeat (rw [sub_full (by (simp only [List.length_map, List.length_replicate]; done))])); exact hQ)
        ·exact good_refPutK (rMk l u) (by show u.hs.length ≤ _; omega) (by show u.xs.length ≤ _; omega) (by show u.ls.length ≤ _; omega) (fun x hx => by have := i4 x hx; omega) hp
        ·simp [-List.map_take, -List.map_drop, -List.map_append, -List.map_replicate, -List.reduceReplicate, noPtrL, noPtr, noPtrL_bsl, noPtrL_map, sub]
        ·simp (disch := first | omega | decide) only [go_sem, f0, f2, f4, o2, o4, o4c7, o4c8, o4c9, hp, at1_get, Int.toNat_zero, Int.toNat_one, Int.reduceToNat, Bool.not_true, Bool.not_false]
         exact hK _
       iterate 1 (apply aops_step (by decide) rfl; · (intro K hK; simp (disch := first | omega | decide) only [go_sem, f0, f2, f4, o2, o4, o4c7, o4c8, o4c9, hp, at1_get, Int.toNat_zero, Int.toNat_one, Int.reduceToNat, Bool.not_true, Bool.not_false]; exact hK _))
       apply aops_step (by decide) rfl
       ·intro K hK
        simp (disch := first | omega | decide) only [go_sem, f0, f2, f4, o2, o4, o4c7, o4c8, o4c9, hp, act_call, List.map, at1_get, Int.toNat_zero, Int.toNat_one, Int.reduceToNat, Bool.not_true, Bool.not_false]
        apply mwp_call_s rfl rfl rfl
        ·intro Q hQ
         (simp (disch := first | omega | decide) only [go_sem, f0, f2, f4, o2, o4, o4c7, o4c8, o4c9, hp, peekL, reifyL_nil, reifyL_cons, reify_v, at1_get, Int.toNat_zero, Int.toNat_one, Int.reduceToNat, Bool.not_true, Bool.not_false]; (exact hQ))
        ·exact O.good_Same false nil (pktS (rMk l u)) l (by omega) (by omega)
        ·simp [-List.map_take, -List.map_drop, -List.map_append, -List.map_replicate, -List.reduceReplicate, noPtrL, noPtr, noPtrL_bsl, noPtrL_map, sub]
        ·rfl
        ·exact hK _
       iterate 2 (apply aops_step (by decide) rfl; · (intro K hK; simp (disch := first | omega | decide) only [go_sem, f0, f2, f4, o2, o4, o4c7, o4c8, o4c9, hp, at1_get, Int.toNat_zero, Int.toNat_one, Int.reduceToNat, Bool.not_true, Bool.not_false]; exact hK _))
       refine aops_nil ?_
       apply AW.cond
       ·(simp only [go_sem, f0, f2, f4, o2, o4, o4c7, o4c8, o4c9, hp, at1_get, Int.toNat_zero, Int.toNat_one, Int.reduceToNat, Bool.not_true, Bool.not_false]; rfl)
       case ht =>
        intro hb
        try simp only [bo1, bo2, bo3, bo4, bo5, bo6] at hb
        have hbt145 := hb
        refine AW.sr (cfg := cfg) ?_
        apply aops_step (by decide) rfl
        ·intro K hK
         simp (disch := first | omega | decide) only [go_sem, f0, f2, f4, o2, o4, o4c7, o4c8, o4c9, hp, act_build_t ti28 pl28, List.map, at1_get, Int.toNat_zero, Int.toNat_one, Int.reduceToNat, Bool.not_true, Bool.not_false]
         simp [-List.map_take, -List.map_drop, fillL, okOne, cellishAV, Value.oneCell', cellsL, cellsOf, setAt, M.bind, Mwp, mset_same, Obj.isArr, o2, o4, o4c7, o4c8, o4c9]
         exact hK _
        apply aops_step0 rfl
        ·intro K hK
         simp (disch := first | omega | decide) only [go_sem, f0, f2, f4, o2, o4, o4c7, o4c8, o4c9, hp, act_store_t ti28, List.map, at1_get, Int.toNat_zero, Int.toNat_one, Int.reduceToNat, Bool.not_true, Bool.not_false]
         rw [mwp_store_c (by simp (disch := first | omega | decide) only [go_sem, f0, f2, f4, o2, o4, o4c7, o4c8, o4c9, hp, at1_get, Int.toNat_zero, Int.toNat_one, Int.reduceToNat, Bool.not_true, Bool.not_false]; rfl) (by rfl) (by rfl) (by rfl) (by simp)]
         (simp [-List.map_take, -List.map_drop, aStore, cellsL, settleL, settle, M.bind, Mwp, freezeN, cellishAV, Value.oneCell', setAt, sub, mset_same, mset_ne, List.take_of_length_le, f0, f2, f4, o2, o4, o4c7, o4c8, o4c9, hp])
         try simp only [setAt, cellsL, cellsOf_agg, cellsOf_base, List.map_cons, List.map_nil, List.set_cons_zero, List.set_cons_succ, Nat.reduceAdd, Nat.zero_add, hG]
         exact hK _
        iterate 1 (apply aops_step (by decide) rfl; · (intro K hK; simp (disch := first | omega | decide) only [go_sem, f0, f2, f4, o2, o4, o4c7, o4c8, o4c9, hp, at1_get, Int.toNat_zero, Int.toNat_one, Int.reduceToNat, Bool.not_true, Bool.not_false]; exact hK _))
        refine aops_nil ?_
        refine AW.ret ?_
        refine ⟨.inr rfl, ?_⟩
        apply Exists.intro
        (have z := rg_f hbt12 mo0 (by rw [hp]; simpa using hbt145))
        rw [z]
        refine leaves_mwp2 (rs := [.cell 2 28, .tmp 3]) rfl ?_; simp (config := {failIfUnchanged := false}) [giveL, srcOne, rehome, freezeN, sub, ti28, upd, opn, aLoad, loadL, giveOne, reify, reifyL, readL, readOne, Mwp, M.bind, Mem.set, setAt, cellsL, hG, f0, f2, f4, o2, o4, o4c7, o4c8, o4c9, hp]
        exact ⟨rfl, rfl⟩
       case hf =>
        intro hb
        try simp only [bo1, bo2, bo3, bo4, bo5, bo6] at hb
        have hbt145 := hb
        refine AW.skip ?_
        refine AW.sr (cfg := cfg) ?_
        apply aops_step (by decide) rfl
        ·intro K hK
         simp (disch := first | omega | decide) only [go_sem, f0, f2, f4, o2, o4, o4c7, o4c8, o4c9, hp, act_load_t ti28, List.map, at1_get, Int.toNat_zero, Int.toNat_one, Int.reduceToNat, Bool.not_true, Bool.not_false]
         rw [mwp_load_bs (by simp (disch := first | omega | decide) only [go_sem, f0, f2, f4, o2, o4, o4c7, o4c8, o4c9, hp, at1_get, Int.toNat_zero, Int.toNat_one, Int.reduceToNat, Bool.not_true, Bool.not_false]; rfl) (by simp [setAt])]
         try simp only [List.drop_zero, List.drop_succ_cons, List.take_succ_cons, List.take_zero]
         exact hK _
        apply aops_step0 rfl
        ·intro K hK
         simp (disch := first | omega | decide) only [go_sem, f0, f2, f4, o2, o4, o4c7, o4c8, o4c9, hp, act_store_t ti28, List.map, at1_get, Int.toNat_zero, Int.toNat_one, Int.reduceToNat, Bool.not_true, Bool.not_false]
         (refine mwp_store_gen (by simp (disch := first | omega | decide) only [go_sem, f0, f2, f4, o2, o4, o4c7, o4c8, o4c9, hp, at1_get, Int.toNat_zero, Int.toNat_one, Int.reduceToNat, Bool.not_true, Bool.not_false]; rfl) ?_; simp only [cellsL]; (try simp only [List.drop_zero, List.drop_succ_cons, List.take_succ_cons, List.take_zero]); (repeat (first | rw [mwp_settleL_v (by rfl)] | rw [mwp_settleL_cellf (by decide) (by simp (disch := first | omega | decide) only [go_sem, f0, f2, f4, o2, o4, o4c7, o4c8, o4c9, hp, at1_get, Int.toNat_zero, Int.toNat_one, Int.reduceToNat, Bool.not_true, Bool.not_false]; rfl)])); rw [mwp_settleL_nil]; refine ⟨by simp (disch := first | omega | decide) only [go_sem, f0, f2, f4, o2, o4, o4c7, o4c8, o4c9, hp, at1_get, Int.toNat_zero, Int.toNat_one, Int.reduceToNat, Bool.not_true, Bool.not_false] <;> rfl, rfl, by simp, ?_⟩)
         (simp [-List.map_take, -List.map_drop, aStore, cellsL, settleL, settle, M.bind, Mwp, freezeN, cellishAV, Value.oneCell', setAt, sub, mset_same, mset_ne, List.take_of_length_le, f0, f2, f4, o2, o4, o4c7, o4c8, o4c9, hp])
         try simp only [setAt, cellsL, cellsOf_agg, cellsOf_base, List.map_cons, List.map_nil, List.set_cons_zero, List.set_cons_succ, Nat.reduceAdd, Nat.zero_add, hG]
         exact hK _
        iterate 1 (apply aops_step (by decide) rfl; · (intro K hK; simp (disch := first | omega | decide) only [go_sem, f0, f2, f4, o2, o4, o4c7, o4c8, o4c9, hp, at1_get, Int.toNat_zero, Int.toNat_one, Int.reduceToNat, Bool.not_true, Bool.not_false]; exact hK _))
        refine aops_nil ?_
        refine AW.ret ?_
        refine ⟨.inr rfl, ?_⟩
        apply Exists.intro
        (have z := rg_t hbt12 mo0 (by rw [hp]; simpa using hbt145))
        rw [z]
        refine leaves_mwp2 (rs := [.cell 2 28, .tmp 3]) rfl ?_; simp (config := {failIfUnchanged := false}) [giveL, srcOne, rehome, freezeN, sub, ti28, upd, opn, aLoad, loadL, giveOne, reify, reifyL, readL, readOne, Mwp, M.bind, Mem.set, setAt, cellsL, hG, f0, f2, f4, o2, o4, o4c7, o4c8, o4c9, hp]
        exact ⟨rfl, rfl⟩
end Go.Vai.P
