import Derived.Test.YtblgcekomnnfmaagPkt11
import Derived.Test.YtblgcekomnnfmaagPkt10
namespace Go.Vai.P
open Go.Proofs Go.Vai Go.Vai.G Go.Vai.L Go.Vai.O Go.Vai.U Go.Vai.Z
set_option linter.unusedSimpArgs false
set_option linter.unusedVariables false
set_option maxHeartbeats 4000000
set_option maxRecDepth 100000
theorem rf_v (l : List (BitVec 8)) : (rfP l).getD pkt0 = pkV l := by
  rw [rfP_is, pkV]; cases pkOK l <;> rfl
theorem rf_o (l : List (BitVec 8)) : (rfP l).isSome = pkOK l := by
  rw [rfP_is]; cases pkOK l <;> rfl
theorem good_refGetK2 (nil : Bool) (l : List (BitVec 8)) (hl : l.length ≤ 140737488350000) : Good Try.prog 11 [(.sl 1 nil (bsl l), false)] [] [(pktA (pkV l), false), (.b (pkOK l), false)] [] := by
  have g := good_refGetK nil l hl
  rw [rf_v, rf_o] at g; exact g
theorem pkk_way (l : List (BitVec 8)) : pkOK l = false ∨ pkOK l = true := by cases pkOK l <;> simp
theorem pk_self {l : List (BitVec 8)} (h : pkOK l = true) : pktOK (pkV l) = true ∧ pktS (pkV l) = l ∧ pktEr (pkV l) = 0 := by
  have h2 := h
  rw [pkOK, Bool.and_eq_true] at h2
  have h3 := h2.2
  rw [inOK, Bool.and_eq_true] at h3
  obtain ⟨y1, _⟩ := pk_yes h
  rw [y1]
  exact ⟨h3.2, by rw [(ps_ok h3.2).1, ← in_cons h2.2]; exact (ok_seal h2.1).symm, (ps_ok h3.2).2⟩
theorem good_PacketGets (nil : Bool) (l : List (BitVec 8)) (hl : l.length ≤ 9223372036854775807) (hz : nil = true → l = []) : Good Try.prog 3 [(.sl 1 nil (bsl l), false)] [] [(.b true, false)] [] := by
 refine good_of_body4 60 Try.func3 rfl rfl rfl (by simp) (by simp) (by simp [noPtrL, noPtr]) (by rfl) ?_
 intro s m ha hr hv hG
 have f0 : s 0 = .v (.sl 1 nil (bsl l)) := ha 0 _ rfl
 clear ha
 refine AW.sr (cfg := cfg) ?_
 iterate 1 (apply aops_step (by decide) rfl; · (intro K hK; simp (disch := first | omega | decide) only [go_sem, f0, ne_eq, not_true_eq_false, Bool.not_true, Bool.not_false, pkEq_refl]; exact hK _))
 refine aops_nil ?_
 refine AW.seq ?_
 refine AW.sr (cfg := cfg) ?_
 iterate 3 (apply aops_step (by decide) rfl; · (intro K hK; simp (disch := first | omega | decide) only [go_sem, f0, List.map, List.length_map, aops_len u22, ne_eq, not_true_eq_false, Bool.not_true, Bool.not_false, pkEq_refl]; exact hK _))
 refine aops_nil ?_
 apply AW.cond
 ·(simp only [go_sem, f0, ne_eq, not_true_eq_false, Bool.not_true, Bool.not_false, pkEq_refl]; rfl)
 case ht =>
  intro hb
  try simp only [bo1, bo2, bo3, bo4, bo5, bo6] at hb
  have hbt11 := hb
  refine AW.sr (cfg := cfg) ?_
  apply aops_step (by decide) rfl
  ·intro K hK
   simp (disch := first | omega | decide) only [go_sem, f0, act_call, List.map, ne_eq, not_true_eq_false, Bool.not_true, Bool.not_false, pkEq_refl]
   apply mwp_call_s rfl rfl rfl
   ·intro Q hQ
    (simp (disch := first | omega | decide) only [go_sem, f0, peekL, reifyL_nil, reifyL_cons, reify_v, ne_eq, not_true_eq_false, Bool.not_true, Bool.not_false, pkEq_refl]; (exact hQ))
   ·exact good_awake
   ·simp [-List.map_take, -List.map_drop, -List.map_append, -List.map_replicate, -List.reduceReplicate, noPtrL, noPtr, noPtrL_bsl, noPtrL_map, sub]
   ·rfl
   ·exact hK _
  iterate 1 (apply aops_step (by decide) rfl; · (intro K hK; simp (disch := first | omega | decide) only [go_sem, f0, ne_eq, not_true_eq_false, Bool.not_true, Bool.not_false, pkEq_refl]; exact hK _))
  refine aops_nil ?_
  refine AW.ret ?_
  refine ⟨.inr rfl, ?_⟩
  apply Exists.intro
  refine leaves_tmp1 2 rfl ?_ (by rfl)
  simp (disch := first | omega | decide) only [go_sem, f0, ne_eq, not_true_eq_false, Bool.not_true, Bool.not_false, pkEq_refl]
  all_goals first | done | rfl | trace_state
 case hf =>
  intro hb
  try simp only [bo1, bo2, bo3, bo4, bo5, bo6] at hb
  have hbt11 := hb
  refine AW.skip ?_
  refine AW.seq ?_
  obtain ⟨v1, v2, v3, v4⟩ := pkV_bd l
  refine AW.region (cfg := cfg) ?_
  apply aops_step (by decide) rfl
  ·intro K hK
   rw [act_bs el22 ti5]
   (simp [-List.map_take, -List.map_drop, -BitVec.toNat_ofInt, -BitVec.ofInt_natCast, -BitVec.toNat_setWidth, -BitVec.toNat_ushiftRight, -BitVec.toNat_umod, -BitVec.toNat_udiv, go_sem, elems_v, cellishAV, Value.oneCell', isAggAV, partsOf, TI.z, TI.mk1, f0]; exact hK _)
  iterate 1 (apply aops_step (by decide) rfl; · (intro K hK; simp (disch := first | omega | decide) only [go_sem, f0, ne_eq, not_true_eq_false, Bool.not_true, Bool.not_false, pkEq_refl]; exact hK _))
  apply aops_step (by decide) rfl
  ·intro K hK
   simp (disch := first | omega | decide) only [go_sem, f0, List.map, ne_eq, not_true_eq_false, Bool.not_true, Bool.not_false, pkEq_refl]
   apply mwp_append2 el22 ti5 u22
   case hpk => intro Q hQ; exact hQ
   case hs' => rfl
   case ho => simp (disch := first | omega | decide) only [go_sem, f0, ne_eq, not_true_eq_false, Bool.not_true, Bool.not_false, pkEq_refl]; rfl
   case hsz => rfl
   case hhi => (simp; done)
   case hb => (simp only [List.length_cons, List.length_nil, List.length_map, Nat.zero_add, Nat.reduceAdd, roomB]; omega)
   case hy => (simp [sub, cellsOf]; done)
   case k => (try simp only [List.nil_append, ← List.map_append, Bool.false_and]); exact hK _
  apply aops_step (by decide) rfl
  ·intro K hK
   simp (disch := first | omega | decide) only [go_sem, f0, act_call, List.map, ne_eq, not_true_eq_false, Bool.not_true, Bool.not_false, pkEq_refl]
   apply mwp_call_r rfl rfl rfl
   ·intro Q hQ
    (simp (disch := first | omega | decide) only [go_sem, f0, peekL, reifyL_nil, reifyL_cons, reify_v, ne_eq, not_true_eq_false, Bool.not_true, Bool.not_false, pkEq_refl]; ((((rw [mwp_reify_own (by simp only [go_sem, f0, peekL, reifyL_nil, reifyL_cons, reify_v, ne_eq, not_true_eq_false, Bool.not_true, Bool.not_false, pkEq_refl]; rfl)]); (try rw [sub_full (by (simp; done))])); exact hQ)))
   ·exact good_GetK false l (by omega) (by simp)
   ·simp [-List.map_take, -List.map_drop, -List.map_append, -List.map_replicate, -List.reduceReplicate, noPtrL, noPtr, noPtrL_bsl, noPtrL_map, sub]
   ·simp (disch := first | omega | decide) only [go_sem, f0, ne_eq, not_true_eq_false, Bool.not_true, Bool.not_false, pkEq_refl]
    exact hK _
  iterate 3 (apply aops_step (by decide) rfl; · (intro K hK; simp (disch := first | omega | decide) only [go_sem, f0, ne_eq, not_true_eq_false, Bool.not_true, Bool.not_false, pkEq_refl]; exact hK _))
  apply aops_step (by decide) rfl
  ·intro K hK
   simp (disch := first | omega | decide) only [go_sem, f0, act_alloc_t ti28, List.map, ne_eq, not_true_eq_false, Bool.not_true, Bool.not_false, pkEq_refl]
   exact hK _
  apply aops_step0 rfl
  ·intro K hK
   simp (disch := first | omega | decide) only [go_sem, f0, act_store_t ti28, List.map, ne_eq, not_true_eq_false, Bool.not_true, Bool.not_false, pkEq_refl]
   rw [mwp_store_c (by simp (disch := first | omega | decide) only [go_sem, f0, ne_eq, not_true_eq_false, Bool.not_true, Bool.not_false, pkEq_refl]; rfl) (by rfl) (by rfl) (by rfl) (by simp)]
   try simp only [setAt, cellsL, cellsOf_agg, cellsOf_base, List.map_cons, List.map_nil, List.set_cons_zero, List.set_cons_succ, Nat.reduceAdd, Nat.zero_add, hG]
   exact hK _
  iterate 1 (apply aops_step (by decide) rfl; · (intro K hK; simp (disch := first | omega | decide) only [go_sem, f0, ne_eq, not_true_eq_false, Bool.not_true, Bool.not_false, pkEq_refl]; exact hK _))
  refine aops_nil ?_
  refine AW.seq ?_
  rcases pkk_way l with hp | hp
  ·skip
   obtain ⟨_, e5⟩ := pk_not hp
   have e4 := hp
   have e6 := hp
   have e7 := hp
   refine AW.region (cfg := cfg) ?_
   iterate 1 (apply aops_step (by decide) rfl; · (intro K hK; simp (disch := first | omega | decide) only [go_sem, f0, hp, e4, e5, e6, e7, ne_eq, not_true_eq_false, Bool.not_true, Bool.not_false, pkEq_refl]; exact hK _))
   apply aops_step (by decide) rfl
   ·intro K hK
    simp (disch := first | omega | decide) only [go_sem, f0, hp, e4, e5, e6, e7, act_call, List.map, ne_eq, not_true_eq_false, Bool.not_true, Bool.not_false, pkEq_refl]
    apply mwp_call_r rfl rfl rfl
    ·intro Q hQ
     (simp (disch := first | omega | decide) only [go_sem, f0, hp, e4, e5, e6, e7, peekL, reifyL_nil, reifyL_cons, reify_v, ne_eq, not_true_eq_false, Bool.not_true, Bool.not_false, pkEq_refl]; (exact hQ))
    ·exact good_refGetK2 nil l (by omega)
    ·simp [-List.map_take, -List.map_drop, -List.map_append, -List.map_replicate, -List.reduceReplicate, noPtrL, noPtr, noPtrL_bsl, noPtrL_map, sub]
    ·simp (disch := first | omega | decide) only [go_sem, f0, hp, e4, e5, e6, e7, ne_eq, not_true_eq_false, Bool.not_true, Bool.not_false, pkEq_refl]
     exact hK _
   iterate 3 (apply aops_step (by decide) rfl; · (intro K hK; simp (disch := first | omega | decide) only [go_sem, f0, hp, e4, e5, e6, e7, ne_eq, not_true_eq_false, Bool.not_true, Bool.not_false, pkEq_refl]; exact hK _))
   apply aops_step (by decide) rfl
   ·intro K hK
    simp (disch := first | omega | decide) only [go_sem, f0, hp, e4, e5, e6, e7, act_alloc_t ti28, List.map, ne_eq, not_true_eq_false, Bool.not_true, Bool.not_false, pkEq_refl]
    exact hK _
   apply aops_step0 rfl
   ·intro K hK
    simp (disch := first | omega | decide) only [go_sem, f0, hp, e4, e5, e6, e7, act_store_t ti28, List.map, ne_eq, not_true_eq_false, Bool.not_true, Bool.not_false, pkEq_refl]
    rw [mwp_store_c (by simp (disch := first | omega | decide) only [go_sem, f0, hp, e4, e5, e6, e7, ne_eq, not_true_eq_false, Bool.not_true, Bool.not_false, pkEq_refl]; rfl) (by rfl) (by rfl) (by rfl) (by simp)]
    try simp only [setAt, cellsL, cellsOf_agg, cellsOf_base, List.map_cons, List.map_nil, List.set_cons_zero, List.set_cons_succ, Nat.reduceAdd, Nat.zero_add, hG]
    exact hK _
   iterate 1 (apply aops_step (by decide) rfl; · (intro K hK; simp (disch := first | omega | decide) only [go_sem, f0, hp, e4, e5, e6, e7, ne_eq, not_true_eq_false, Bool.not_true, Bool.not_false, pkEq_refl]; exact hK _))
   refine aops_nil ?_
   refine AW.seq ?_
   refine AW.sr (cfg := cfg) ?_
   apply aops_step (by decide) rfl
   ·intro K hK
    simp (disch := first | omega | decide) only [go_sem, f0, hp, e4, e5, e6, e7, act_load_t ti28, List.map, ne_eq, not_true_eq_false, Bool.not_true, Bool.not_false, pkEq_refl]
    rw [mwp_load_bs (by simp (disch := first | omega | decide) only [go_sem, f0, hp, e4, e5, e6, e7, ne_eq, not_true_eq_false, Bool.not_true, Bool.not_false, pkEq_refl]; rfl) (by simp [setAt])]
    exact hK _
   apply aops_step (by decide) rfl
   ·intro K hK
    simp (disch := first | omega | decide) only [go_sem, f0, hp, e4, e5, e6, e7, act_load_t ti28, List.map, ne_eq, not_true_eq_false, Bool.not_true, Bool.not_false, pkEq_refl]
    rw [mwp_load_bs (by simp (disch := first | omega | decide) only [go_sem, f0, hp, e4, e5, e6, e7, ne_eq, not_true_eq_false, Bool.not_true, Bool.not_false, pkEq_refl]; rfl) (by simp [setAt])]
    exact hK _
   apply aops_step (by decide) rfl
   ·intro K hK
    simp (disch := first | omega | decide) only [go_sem, f0, hp, e4, e5, e6, e7, act_call, List.map, ne_eq, not_true_eq_false, Bool.not_true, Bool.not_false, pkEq_refl]
    apply mwp_call_s rfl rfl rfl
    ·intro Q hQ
     (simp (disch := first | omega | decide) only [go_sem, f0, hp, e4, e5, e6, e7, peekL, reifyL_nil, reifyL_cons, reify_v, ne_eq, not_true_eq_false, Bool.not_true, Bool.not_false, pkEq_refl]; (exact hQ))
    ·exact good_refSameK (pkV l) (by omega) (by omega) (by omega) (fun x hx => by have := v4 x hx; omega) (pkV l) (by omega) (by omega) (by omega) (fun x hx => by have := v4 x hx; omega)
    ·simp [-List.map_take, -List.map_drop, -List.map_append, -List.map_replicate, -List.reduceReplicate, noPtrL, noPtr, noPtrL_bsl, noPtrL_map, sub]
    ·rfl
    ·exact hK _
   iterate 14 (apply aops_step (by decide) rfl; · (intro K hK; simp (disch := first | omega | decide) only [go_sem, f0, hp, e4, e5, e6, e7, bin_neq_b u4, ne_eq, not_true_eq_false, Bool.not_true, Bool.not_false, pkEq_refl]; exact hK _))
   refine aops_nil ?_
   apply AW.cond
   ·(simp only [go_sem, f0, hp, e4, e5, e6, e7, ne_eq, not_true_eq_false, Bool.not_true, Bool.not_false, pkEq_refl]; rfl)
   case ht => intro hb; simp at hb
   case hf =>
   intro hb
   have hbt41 := hb
   refine AW.skip ?_
   refine AW.seq ?_
   refine AW.sr (cfg := cfg) ?_
   iterate 2 (apply aops_step (by decide) rfl; · (intro K hK; simp (disch := first | omega | decide) only [go_sem, f0, hp, e4, e5, e6, e7, ne_eq, not_true_eq_false, Bool.not_true, Bool.not_false, pkEq_refl]; exact hK _))
   refine aops_nil ?_
   apply AW.cond
   ·(simp only [go_sem, f0, hp, e4, e5, e6, e7, ne_eq, not_true_eq_false, Bool.not_true, Bool.not_false, pkEq_refl]; rfl)
   case hf => intro hb; (simp at hb; done)
   case ht =>
   intro hb
   have hbt43 := hb
   refine AW.sr (cfg := cfg) ?_
   apply aops_step (by decide) rfl
   ·intro K hK
    simp (disch := first | omega | decide) only [go_sem, f0, hp, e4, e5, e6, e7, act_call, List.map, ne_eq, not_true_eq_false, Bool.not_true, Bool.not_false, pkEq_refl]
    apply mwp_call_s rfl rfl rfl
    ·intro Q hQ
     (simp (disch := first | omega | decide) only [go_sem, f0, hp, e4, e5, e6, e7, peekL, reifyL_nil, reifyL_cons, reify_v, ne_eq, not_true_eq_false, Bool.not_true, Bool.not_false, pkEq_refl]; (exact hQ))
    ·exact good_awake
    ·simp [-List.map_take, -List.map_drop, -List.map_append, -List.map_replicate, -List.reduceReplicate, noPtrL, noPtr, noPtrL_bsl, noPtrL_map, sub]
    ·rfl
    ·exact hK _
   iterate 1 (apply aops_step (by decide) rfl; · (intro K hK; simp (disch := first | omega | decide) only [go_sem, f0, hp, e4, e5, e6, e7, ne_eq, not_true_eq_false, Bool.not_true, Bool.not_false, pkEq_refl]; exact hK _))
   refine aops_nil ?_
   refine AW.ret ?_
   refine ⟨.inr rfl, ?_⟩
   apply Exists.intro
   refine leaves_tmp1 2 rfl ?_ (by rfl)
   simp (disch := first | omega | decide) only [go_sem, f0, hp, e4, e5, e6, e7, ne_eq, not_true_eq_false, Bool.not_true, Bool.not_false, pkEq_refl]
   all_goals first | done | rfl | trace_state
  ·skip
   obtain ⟨_, e5⟩ := pk_yes hp
   obtain ⟨e4, e6, e7⟩ := pk_self hp
   refine AW.region (cfg := cfg) ?_
   iterate 1 (apply aops_step (by decide) rfl; · (intro K hK; simp (disch := first | omega | decide) only [go_sem, f0, hp, e4, e5, e6, e7, ne_eq, not_true_eq_false, Bool.not_true, Bool.not_false, pkEq_refl]; exact hK _))
   apply aops_step (by decide) rfl
   ·intro K hK
    simp (disch := first | omega | decide) only [go_sem, f0, hp, e4, e5, e6, e7, act_call, List.map, ne_eq, not_true_eq_false, Bool.not_true, Bool.not_false, pkEq_refl]
    apply mwp_call_r rfl rfl rfl
    ·intro Q hQ
     (simp (disch := first | omega | decide) only [go_sem, f0, hp, e4, e5, e6, e7, peekL, reifyL_nil, reifyL_cons, reify_v, ne_eq, not_true_eq_false, Bool.not_true, Bool.not_false, pkEq_refl]; (exact hQ))
    ·exact good_refGetK2 nil l (by omega)
    ·simp [-List.map_take, -List.map_drop, -List.map_append, -List.map_replicate, -List.reduceReplicate, noPtrL, noPtr, noPtrL_bsl, noPtrL_map, sub]
    ·simp (disch := first | omega | decide) only [go_sem, f0, hp, e4, e5, e6, e7, ne_eq, not_true_eq_false, Bool.not_true, Bool.not_false, pkEq_refl]
     exact hK _
   iterate 3 (apply aops_step (by decide) rfl; · (intro K hK; simp (disch := first | omega | decide) only [go_sem, f0, hp, e4, e5, e6, e7, ne_eq, not_true_eq_false, Bool.not_true, Bool.not_false, pkEq_refl]; exact hK _))
   apply aops_step (by decide) rfl
   ·intro K hK
    simp (disch := first | omega | decide) only [go_sem, f0, hp, e4, e5, e6, e7, act_alloc_t ti28, List.map, ne_eq, not_true_eq_false, Bool.not_true, Bool.not_false, pkEq_refl]
    exact hK _
   apply aops_step0 rfl
   ·intro K hK
    simp (disch := first | omega | decide) only [go_sem, f0, hp, e4, e5, e6, e7, act_store_t ti28, List.map, ne_eq, not_true_eq_false, Bool.not_true, Bool.not_false, pkEq_refl]
    rw [mwp_store_c (by simp (disch := first | omega | decide) only [go_sem, f0, hp, e4, e5, e6, e7, ne_eq, not_true_eq_false, Bool.not_true, Bool.not_false, pkEq_refl]; rfl) (by rfl) (by rfl) (by rfl) (by simp)]
    try simp only [setAt, cellsL, cellsOf_agg, cellsOf_base, List.map_cons, List.map_nil, List.set_cons_zero, List.set_cons_succ, Nat.reduceAdd, Nat.zero_add, hG]
    exact hK _
   iterate 1 (apply aops_step (by decide) rfl; · (intro K hK; simp (disch := first | omega | decide) only [go_sem, f0, hp, e4, e5, e6, e7, ne_eq, not_true_eq_false, Bool.not_true, Bool.not_false, pkEq_refl]; exact hK _))
   refine aops_nil ?_
   refine AW.seq ?_
   refine AW.sr (cfg := cfg) ?_
   apply aops_step (by decide) rfl
   ·intro K hK
    simp (disch := first | omega | decide) only [go_sem, f0, hp, e4, e5, e6, e7, act_load_t ti28, List.map, ne_eq, not_true_eq_false, Bool.not_true, Bool.not_false, pkEq_refl]
    rw [mwp_load_bs (by simp (disch := first | omega | decide) only [go_sem, f0, hp, e4, e5, e6, e7, ne_eq, not_true_eq_false, Bool.not_true, Bool.not_false, pkEq_refl]; rfl) (by simp [setAt])]
    exact hK _
   apply aops_step (by decide) rfl
   ·intro K hK
    simp (disch := first | omega | decide) only [go_sem, f0, hp, e4, e5, e6, e7, act_load_t ti28, List.map, ne_eq, not_true_eq_false, Bool.not_true, Bool.not_false, pkEq_refl]
    rw [mwp_load_bs (by simp (disch := first | omega | decide) only [go_sem, f0, hp, e4, e5, e6, e7, ne_eq, not_true_eq_false, Bool.not_true, Bool.not_false, pkEq_refl]; rfl) (by simp [setAt])]
    exact hK _
   apply aops_step (by decide) rfl
   ·intro K hK
    simp (disch := first | omega | decide) only [go_sem, f0, hp, e4, e5, e6, e7, act_call, List.map, ne_eq, not_true_eq_false, Bool.not_true, Bool.not_false, pkEq_refl]
    apply mwp_call_s rfl rfl rfl
    ·intro Q hQ
     (simp (disch := first | omega | decide) only [go_sem, f0, hp, e4, e5, e6, e7, peekL, reifyL_nil, reifyL_cons, reify_v, ne_eq, not_true_eq_false, Bool.not_true, Bool.not_false, pkEq_refl]; (exact hQ))
    ·exact good_refSameK (pkV l) (by omega) (by omega) (by omega) (fun x hx => by have := v4 x hx; omega) (pkV l) (by omega) (by omega) (by omega) (fun x hx => by have := v4 x hx; omega)
    ·simp [-List.map_take, -List.map_drop, -List.map_append, -List.map_replicate, -List.reduceReplicate, noPtrL, noPtr, noPtrL_bsl, noPtrL_map, sub]
    ·rfl
    ·exact hK _
   iterate 14 (apply aops_step (by decide) rfl; · (intro K hK; simp (disch := first | omega | decide) only [go_sem, f0, hp, e4, e5, e6, e7, bin_neq_b u4, ne_eq, not_true_eq_false, Bool.not_true, Bool.not_false, pkEq_refl]; exact hK _))
   refine aops_nil ?_
   apply AW.cond
   ·(simp only [go_sem, f0, hp, e4, e5, e6, e7, ne_eq, not_true_eq_false, Bool.not_true, Bool.not_false, pkEq_refl]; rfl)
   case ht => intro hb; simp at hb
   case hf =>
   intro hb
   have hbt41 := hb
   refine AW.skip ?_
   refine AW.seq ?_
   refine AW.sr (cfg := cfg) ?_
   iterate 2 (apply aops_step (by decide) rfl; · (intro K hK; simp (disch := first | omega | decide) only [go_sem, f0, hp, e4, e5, e6, e7, ne_eq, not_true_eq_false, Bool.not_true, Bool.not_false, pkEq_refl]; exact hK _))
   refine aops_nil ?_
   apply AW.cond
   ·(simp only [go_sem, f0, hp, e4, e5, e6, e7, ne_eq, not_true_eq_false, Bool.not_true, Bool.not_false, pkEq_refl]; rfl)
   case ht => intro hb; (simp at hb; done)
   case hf =>
   intro hb
   have hbt43 := hb
   refine AW.skip ?_
   refine AW.sr (cfg := cfg) ?_
   apply aops_step (by decide) rfl
   ·intro K hK
    simp (disch := first | omega | decide) only [go_sem, f0, hp, e4, e5, e6, e7, act_load_t ti28, List.map, ne_eq, not_true_eq_false, Bool.not_true, Bool.not_false, pkEq_refl]
    rw [mwp_load_bs (by simp (disch := first | omega | decide) only [go_sem, f0, hp, e4, e5, e6, e7, ne_eq, not_true_eq_false, Bool.not_true, Bool.not_false, pkEq_refl]; rfl) (by simp [setAt])]
    exact hK _
   apply aops_step (by decide) rfl
   ·intro K hK
    simp (disch := first | omega | decide) only [go_sem, f0, hp, e4, e5, e6, e7, act_call, List.map, ne_eq, not_true_eq_false, Bool.not_true, Bool.not_false, pkEq_refl]
    apply mwp_call_r rfl rfl rfl
    ·intro Q hQ
     (simp (disch := first | omega | decide) only [go_sem, f0, hp, e4, e5, e6, e7, peekL, reifyL_nil, reifyL_cons, reify_v, ne_eq, not_true_eq_false, Bool.not_true, Bool.not_false, pkEq_refl]; (exact hQ))
    ·exact good_PutK (pkV l) (by omega) (by omega) (by omega) (fun x hx => by have := v4 x hx; omega)
    ·simp [-List.map_take, -List.map_drop, -List.map_append, -List.map_replicate, -List.reduceReplicate, noPtrL, noPtr, noPtrL_bsl, noPtrL_map, sub]
    ·rw [resOf_own2 (by (simp (disch := decide) only [mset_ne, hr]; done))]
     exact hK _
   iterate 3 (apply aops_step (by decide) rfl; · (intro K hK; simp (disch := first | omega | decide) only [go_sem, f0, hp, e4, e5, e6, e7, ne_eq, not_true_eq_false, Bool.not_true, Bool.not_false, pkEq_refl]; exact hK _))
   apply aops_step (by decide) rfl
   ·intro K hK
    simp (disch := first | omega | decide) only [go_sem, f0, hp, e4, e5, e6, e7, ne_eq, not_true_eq_false, Bool.not_true, Bool.not_false, pkEq_refl]
    rw [asg_tmp (by simp (disch := first | omega | decide) only [go_sem, f0, hp, e4, e5, e6, e7, ne_eq, not_true_eq_false, Bool.not_true, Bool.not_false, pkEq_refl]; rfl)]
    exact hK _
   iterate 1 (apply aops_step (by decide) rfl; · (intro K hK; simp (disch := first | omega | decide) only [go_sem, f0, hp, e4, e5, e6, e7, ne_eq, not_true_eq_false, Bool.not_true, Bool.not_false, pkEq_refl]; exact hK _))
   refine aops_nil ?_
   refine AW.sr (cfg := cfg) ?_
   iterate 5 (apply aops_step (by decide) rfl; · (intro K hK; simp (disch := first | omega | decide) only [go_sem, f0, hp, e4, e5, e6, e7, ne_eq, not_true_eq_false, Bool.not_true, Bool.not_false, pkEq_refl]; exact hK _))
   apply aops_step (by decide) rfl
   ·intro K hK
    simp (disch := first | omega | decide) only [go_sem, f0, hp, e4, e5, e6, e7, act_call, List.map, ne_eq, not_true_eq_false, Bool.not_true, Bool.not_false, pkEq_refl]
    apply mwp_call_s rfl rfl rfl
    ·intro Q hQ
     (simp (disch := first | omega | decide) only [go_sem, f0, hp, e4, e5, e6, e7, peekL, reifyL_nil, reifyL_cons, reify_v, ne_eq, not_true_eq_false, Bool.not_true, Bool.not_false, pkEq_refl]; ((((rw [peek_own (by simp (disch := first | omega | decide) only [go_sem, f0, hp, e4, e5, e6, e7, peekL, reifyL_nil, reifyL_cons, reify_v, ne_eq, not_true_eq_false, Bool.not_true, Bool.not_false, pkEq_refl]; rfl)]); (try rw [sub_full (by rfl)])); exact hQ)))
    ·exact O.good_Same nil false l l (by omega) (by omega)
    ·simp [-List.map_take, -List.map_drop, -List.map_append, -List.map_replicate, -List.reduceReplicate, noPtrL, noPtr, noPtrL_bsl, noPtrL_map, sub]
    ·rfl
    ·exact hK _
   iterate 2 (apply aops_step (by decide) rfl; · (intro K hK; simp (disch := first | omega | decide) only [go_sem, f0, hp, e4, e5, e6, e7, ne_eq, not_true_eq_false, Bool.not_true, Bool.not_false, pkEq_refl]; exact hK _))
   apply aops_step (by decide) rfl
   ·intro K hK
    simp (disch := first | omega | decide) only [go_sem, f0, hp, e4, e5, e6, e7, act_call, List.map, ne_eq, not_true_eq_false, Bool.not_true, Bool.not_false, pkEq_refl]
    apply mwp_call_s rfl rfl rfl
    ·intro Q hQ
     (simp (disch := first | omega | decide) only [go_sem, f0, hp, e4, e5, e6, e7, peekL, reifyL_nil, reifyL_cons, reify_v, ne_eq, not_true_eq_false, Bool.not_true, Bool.not_false, pkEq_refl]; (exact hQ))
    ·exact good_awake
    ·simp [-List.map_take, -List.map_drop, -List.map_append, -List.map_replicate, -List.reduceReplicate, noPtrL, noPtr, noPtrL_bsl, noPtrL_map, sub]
    ·rfl
    ·exact hK _
   iterate 2 (apply aops_step (by decide) rfl; · (intro K hK; simp (disch := first | omega | decide) only [go_sem, f0, hp, e4, e5, e6, e7, ne_eq, not_true_eq_false, Bool.not_true, Bool.not_false, pkEq_refl]; exact hK _))
   refine aops_nil ?_
   refine AW.ret ?_
   refine ⟨.inr rfl, ?_⟩
   apply Exists.intro
   refine leaves_tmp1 2 rfl ?_ (by rfl)
   simp (disch := first | omega | decide) only [go_sem, f0, hp, e4, e5, e6, e7, ne_eq, not_true_eq_false, Bool.not_true, Bool.not_false, pkEq_refl]
   all_goals first | done | rfl | trace_state
end Go.Vai.P
