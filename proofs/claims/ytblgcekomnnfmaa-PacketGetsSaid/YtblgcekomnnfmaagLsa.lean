import Derived.Test.YtblgcekomnnfmaagOct
import Derived.Test.YtblgcekomnnfmaaLsaPl
namespace Go.Vai.L
open Go.Proofs Go.Vai Go.Vai.O
set_option linter.unusedSimpArgs false
set_option linter.unusedVariables false
set_option maxHeartbeats 4000000
set_option maxRecDepth 100000
attribute [go_sem] cellsOf_link
theorem good_node (n : Int) : Good Try.prog 97 [(i64 n, false)] [] [(.b (node n), false)] [] := by
 refine good_of_body2 9 Try.func97 rfl rfl rfl (by simp) ?_
 intro s m ha hr hv hG
 have f0 : s 0 = .v (i64 n) := ha 0 _ rfl
 clear ha
 refine AW.sr (cfg := cfg) ?_
 iterate 1 (apply aops_step (by decide) rfl; · (intro K hK; simp (disch := first | omega | decide) only [go_sem, f0]; exact hK _))
 refine aops_nil ?_
 refine AW.sr (cfg := cfg) ?_
 iterate 3 (apply aops_step (by decide) rfl; · (intro K hK; simp (disch := first | omega | decide) only [go_sem, f0]; exact hK _))
 apply aops_merge' (by decide) (by exact want_of (d := 5) rfl (by simp only [go_sem, f0, opn_cond]; rfl))
 ·intro hc K hK
  simp (disch := first | omega | decide) only [go_sem, f0, opn_cond, hc, if_true]
  exact hK _
 apply aops_merge' (by decide) (by exact want_of (d := 5) rfl (by simp (disch := first | omega | decide) only [go_sem, f0, opn_cond]; rfl))
 ·intro hc K hK
  simp (disch := first | omega | decide) only [go_sem, f0, opn_cond, hc, if_true]
  exact hK _
 iterate 2 (apply aops_step (by decide) rfl; · (intro K hK; simp (disch := first | omega | decide) only [go_sem, f0]; exact hK _))
 refine aops_nil ?_
 refine AW.ret ?_
 refine ⟨.inr rfl, ?_⟩
 refine leaves_mwp2 (rs := [.tmp 2]) rfl ?_
 simp (config := {failIfUnchanged := false}) [giveL, srcOne, rehome, freezeN, sub, upd, opn, aLoad, loadL, giveOne, reify, reifyL, readL, readOne, Mwp, M.bind, Mem.set, setAt, cellsL, hG, f0, node]
 all_goals first | done | omega | (simp_all; done) | (simp_all; omega) | grind
theorem good_Check (o q : Int) (nil : Bool) (ls : List LinkS) (hl : ls.length ≤ 9223372036854775807) : Good Try.prog 78 [(.agg [i64 o, i64 q, .sl 2 nil (ls.map linkA)], false)] [] [(i64 (lsaE ⟨o, q, nil, ls⟩), false)] [] := by
 refine good_of_body2 63 Try.func78 rfl rfl rfl (by simp) ?_
 intro s m ha hr hv hG
 have f0 : s 0 = .v (.agg [i64 o, i64 q, .sl 2 nil (ls.map linkA)]) := ha 0 _ rfl
 clear ha
 refine AW.sr (cfg := cfg) ?_
 apply aops_step (by decide) rfl
 ·intro K hK
  simp (disch := first | omega | decide) only [go_sem, f0, act_box_t ti79, List.map]
  rw [settleL_vish _ _ (by rfl)]
  simp (disch := first | omega | decide) only [go_sem, f0, cellsL, List.map, List.length_cons, List.length_nil, Nat.reduceAdd, if_true]
  exact hK _
 iterate 1 (apply aops_step (by decide) rfl; · (intro K hK; simp (disch := first | omega | decide) only [go_sem, f0]; exact hK _))
 refine aops_nil ?_
 refine AW.seq ?_
 refine AW.sr (cfg := cfg) ?_
 first | refine aops_fl (by decide) (by decide) fo79_0 ti3 (by simp only [go_sem, f0]; rfl) (by simp only [go_sem, f0]; rfl) (by rfl) ?_ | refine aops_fl (by decide) (by decide) fo79_0 ti3 (by simp (disch := first | omega | decide) only [go_sem, f0]; rfl) (by simp (disch := first | omega | decide) only [go_sem, f0]; rfl) (by rfl) ?_
 apply aops_step (by decide) rfl
 ·intro K hK
  simp (disch := first | omega | decide) only [go_sem, f0, act_call, List.map]
  apply mwp_call_s rfl rfl rfl
  ·intro Q hQ
   first | (simp (disch := first | omega | decide) only [go_sem, f0, peekL, reifyL_nil, reifyL_cons, reify_v]; (first | exact hQ | (((first | rw [peek_own (by simp (disch := first | omega | decide) only [go_sem, f0, peekL, reifyL_nil, reifyL_cons, reify_v]; rfl)] | rw [mwp_reify_own (by simp only [go_sem, f0, peekL, reifyL_nil, reifyL_cons, reify_v]; rfl)] | rw [mwp_reify_own (by simp (disch := first | omega | decide) only [go_sem, f0, peekL, reifyL_nil, reifyL_cons, reify_v]; rfl)] | rw [peek_frz (by simp (disch := first | omega | decide) only [go_sem, f0, peekL, reifyL_nil, reifyL_cons, reify_v]; rfl)] | rw [reify_frz (by simp (disch := first | omega | decide) only [go_sem, f0, peekL, reifyL_nil, reifyL_cons, reify_v]; rfl)]); (try rw [sub_full (by first | rfl | (simp only [List.length_map, List.length_replicate]; done) | (simp; done) | (simp; omega))])); exact hQ) | (((first | rw [peek_own (by simp (disch := first | omega | decide) only [go_sem, f0, peekL, reifyL_nil, reifyL_cons, reify_v]; rfl)] | rw [mwp_reify_own (by simp only [go_sem, f0, peekL, reifyL_nil, reifyL_cons, reify_v]; rfl)] | rw [mwp_reify_own (by simp (disch := first | omega | decide) only [go_sem, f0, peekL, reifyL_nil, reifyL_cons, reify_v]; rfl)] | rw [peek_frz (by simp (disch := first | omega | decide) only [go_sem, f0, peekL, reifyL_nil, reifyL_cons, reify_v]; rfl)] | rw [reify_frz (by simp (disch := first | omega | decide) only [go_sem, f0, peekL, reifyL_nil, reifyL_cons, reify_v]; rfl)]); (try rw [sub_full (by first | rfl | (simp only [List.length_map, List.length_replicate]; done) | (simp; done) | (simp; omega))])); (try simp (disch := first | omega | decide) only [go_sem, f0, peekL, reifyL_nil, reifyL_cons, reify_v]); ((first | rw [peek_own (by simp (disch := first | omega | decide) only [go_sem, f0, peekL, reifyL_nil, reifyL_cons, reify_v]; rfl)] | rw [mwp_reify_own (by simp only [go_sem, f0, peekL, reifyL_nil, reifyL_cons, reify_v]; rfl)] | rw [mwp_reify_own (by simp (disch := first | omega | decide) only [go_sem, f0, peekL, reifyL_nil, reifyL_cons, reify_v]; rfl)] | rw [peek_frz (by simp (disch := first | omega | decide) only [go_sem, f0, peekL, reifyL_nil, reifyL_cons, reify_v]; rfl)] | rw [reify_frz (by simp (disch := first | omega | decide) only [go_sem, f0, peekL, reifyL_nil, reifyL_cons, reify_v]; rfl)]); (try rw [sub_full (by first | rfl | (simp only [List.length_map, List.length_replicate]; done) | (simp; done) | (simp; omega))])); exact hQ) | (((first | rw [peek_own (by simp (disch := first | omega | decide) only [go_sem, f0, peekL, reifyL_nil, reifyL_cons, reify_v]; rfl)] | rw [mwp_reify_own (by simp only [go_sem, f0, peekL, reifyL_nil, reifyL_cons, reify_v]; rfl)] | rw [mwp_reify_own (by simp (disch := first | omega | decide) only [go_sem, f0, peekL, reifyL_nil, reifyL_cons, reify_v]; rfl)] | rw [peek_frz (by simp (disch := first | omega | decide) only [go_sem, f0, peekL, reifyL_nil, reifyL_cons, reify_v]; rfl)] | rw [reify_frz (by simp (disch := first | omega | decide) only [go_sem, f0, peekL, reifyL_nil, reifyL_cons, reify_v]; rfl)]); (try rw [sub_full (by first | rfl | (simp only [List.length_map, List.length_replicate]; done) | (simp; done) | (simp; omega))])); simp (disch := first | omega | decide) only [go_sem, f0, peekL, reifyL_nil, reifyL_cons, reify_v]; exact hQ))) | ((try simp only [opn_agg, opn_own, opn_v]); (try simp only [List.drop_zero, List.drop_succ_cons, List.take_succ_cons, List.take_zero]); (repeat (first | rw [mwp_peekL_agg] | rw [mwp_peekL_v] | rw [mwp_peekL_arr (by simp only [go_sem, f0]; rfl)] | rw [mwp_peekL_arr (by simp (disch := first | omega | decide) only [go_sem, f0]; rfl)] | rw [mwp_peekL_frz (by simp only [go_sem, f0]; rfl)] | rw [mwp_peekL_frz (by simp (disch := first | omega | decide) only [go_sem, f0]; rfl)] | rw [mwp_peekL_nil] | rw [mwp_reifyL_agg] | rw [mwp_reifyL_v] | rw [mwp_reifyL_arr (by simp only [go_sem, f0]; rfl)] | rw [mwp_reifyL_arr (by simp (disch := first | omega | decide) only [go_sem, f0]; rfl)] | rw [mwp_reifyL_frz (by simp only [go_sem, f0]; rfl)] | rw [mwp_reifyL_frz (by simp (disch := first | omega | decide) only [go_sem, f0]; rfl)] | rw [mwp_reifyL_nil])); (repeat (rw [sub_full (by first | rfl | (simp only [List.length_map, List.length_replicate]; done) | (simp; done) | (simp; omega))])); exact hQ)
  ·exact good_node _
  ·simp [-List.map_take, -List.map_drop, -List.map_append, -List.map_replicate, -List.reduceReplicate, noPtrL, noPtr, noPtrL_bsl, noPtrL_map, sub]
  ·rfl
  ·exact hK _
 iterate 2 (apply aops_step (by decide) rfl; · (intro K hK; simp (disch := first | omega | decide) only [go_sem, f0]; exact hK _))
 first | refine aops_flm (dg := 10) (by decide) (by decide) (by decide) fo79_1 ti3 rfl (by simp only [go_sem, f0]; rfl) (by simp only [go_sem, f0]; rfl) (by simp only [go_sem, f0]; rfl) (by rfl) ?_ | refine aops_flc (dg := 10) (by decide) (by decide) (by decide) fo79_1 ti3 rfl (by simp only [go_sem, f0]; rfl) (by simp only [go_sem, f0]; rfl) (by simp only [go_sem, f0]; rfl) (by rfl) ?_ | refine aops_flm (dg := 10) (by decide) (by decide) (by decide) fo79_1 ti3 rfl (by simp (disch := first | omega | decide) only [go_sem, f0]; rfl) (by simp (disch := first | omega | decide) only [go_sem, f0]; rfl) (by simp (disch := first | omega | decide) only [go_sem, f0]; rfl) (by rfl) ?_ | refine aops_flc (dg := 10) (by decide) (by decide) (by decide) fo79_1 ti3 rfl (by simp (disch := first | omega | decide) only [go_sem, f0]; rfl) (by simp (disch := first | omega | decide) only [go_sem, f0]; rfl) (by simp (disch := first | omega | decide) only [go_sem, f0]; rfl) (by rfl) ?_
 apply aops_merge' (by decide) (by first | exact want_of (d := 10) rfl (by simp only [go_sem, f0, opn_cond]; rfl) | exact want_of (d := 10) rfl (by simp (disch := first | omega | decide) only [go_sem, f0, opn_cond]; rfl) | exact want_of_cond (d := 10) rfl (by simp only [go_sem, f0, opn_cond]; rfl) | exact want_of_cond (d := 10) rfl (by simp (disch := first | omega | decide) only [go_sem, f0, opn_cond]; rfl))
 ·intro hc K hK
  simp (disch := first | omega | decide) only [go_sem, f0, opn_cond, hc, if_true]
  exact hK _
 iterate 2 (apply aops_step (by decide) rfl; · (intro K hK; simp (disch := first | omega | decide) only [go_sem, f0]; exact hK _))
 first | refine aops_flm (dg := 15) (by decide) (by decide) (by decide) fo79_1 ti3 rfl (by simp only [go_sem, f0]; rfl) (by simp only [go_sem, f0]; rfl) (by simp only [go_sem, f0]; rfl) (by rfl) ?_ | refine aops_flc (dg := 15) (by decide) (by decide) (by decide) fo79_1 ti3 rfl (by simp only [go_sem, f0]; rfl) (by simp only [go_sem, f0]; rfl) (by simp only [go_sem, f0]; rfl) (by rfl) ?_ | refine aops_flm (dg := 15) (by decide) (by decide) (by decide) fo79_1 ti3 rfl (by simp (disch := first | omega | decide) only [go_sem, f0]; rfl) (by simp (disch := first | omega | decide) only [go_sem, f0]; rfl) (by simp (disch := first | omega | decide) only [go_sem, f0]; rfl) (by rfl) ?_ | refine aops_flc (dg := 15) (by decide) (by decide) (by decide) fo79_1 ti3 rfl (by simp (disch := first | omega | decide) only [go_sem, f0]; rfl) (by simp (disch := first | omega | decide) only [go_sem, f0]; rfl) (by simp (disch := first | omega | decide) only [go_sem, f0]; rfl) (by rfl) ?_
 apply aops_merge' (by decide) (by first | exact want_of (d := 15) rfl (by simp only [go_sem, f0, opn_cond]; rfl) | exact want_of (d := 15) rfl (by simp (disch := first | omega | decide) only [go_sem, f0, opn_cond]; rfl) | exact want_of_cond (d := 15) rfl (by simp only [go_sem, f0, opn_cond]; rfl) | exact want_of_cond (d := 15) rfl (by simp (disch := first | omega | decide) only [go_sem, f0, opn_cond]; rfl))
 ·intro hc K hK
  simp (disch := first | omega | decide) only [go_sem, f0, opn_cond, hc, if_true]
  exact hK _
 iterate 2 (apply aops_step (by decide) rfl; · (intro K hK; simp (disch := first | omega | decide) only [go_sem, f0]; exact hK _))
 first | refine aops_flm (dg := 20) (by decide) (by decide) (by decide) fo79_2 ti77 rfl (by simp only [go_sem, f0]; rfl) (by simp only [go_sem, f0]; rfl) (by simp only [go_sem, f0]; rfl) (by rfl) ?_ | refine aops_flc (dg := 20) (by decide) (by decide) (by decide) fo79_2 ti77 rfl (by simp only [go_sem, f0]; rfl) (by simp only [go_sem, f0]; rfl) (by simp only [go_sem, f0]; rfl) (by rfl) ?_ | refine aops_flm (dg := 20) (by decide) (by decide) (by decide) fo79_2 ti77 rfl (by simp (disch := first | omega | decide) only [go_sem, f0]; rfl) (by simp (disch := first | omega | decide) only [go_sem, f0]; rfl) (by simp (disch := first | omega | decide) only [go_sem, f0]; rfl) (by rfl) ?_ | refine aops_flc (dg := 20) (by decide) (by decide) (by decide) fo79_2 ti77 rfl (by simp (disch := first | omega | decide) only [go_sem, f0]; rfl) (by simp (disch := first | omega | decide) only [go_sem, f0]; rfl) (by simp (disch := first | omega | decide) only [go_sem, f0]; rfl) (by rfl) ?_
 apply aops_merge' (by decide) (by first | exact want_of (d := 20) rfl (by simp only [go_sem, f0, opn_cond]; rfl) | exact want_of (d := 20) rfl (by simp (disch := first | omega | decide) only [go_sem, f0, opn_cond]; rfl) | exact want_of_cond (d := 20) rfl (by simp only [go_sem, f0, opn_cond]; rfl) | exact want_of_cond (d := 20) rfl (by simp (disch := first | omega | decide) only [go_sem, f0, opn_cond]; rfl))
 ·intro hc K hK
  simp (disch := first | omega | decide) only [go_sem, f0, opn_cond, hc, if_true, List.map, List.length_map, aops_len u77]
  exact hK _
 apply aops_merge' (by decide) (by first | exact want_of (d := 20) rfl (by simp only [go_sem, f0, opn_cond]; rfl) | exact want_of (d := 20) rfl (by simp (disch := first | omega | decide) only [go_sem, f0, opn_cond]; rfl) | exact want_of_cond (d := 20) rfl (by simp only [go_sem, f0, opn_cond]; rfl) | exact want_of_cond (d := 20) rfl (by simp (disch := first | omega | decide) only [go_sem, f0, opn_cond]; rfl))
 ·intro hc K hK
  simp (disch := first | omega | decide) only [go_sem, f0, opn_cond, hc, if_true]
  exact hK _
 iterate 1 (apply aops_step (by decide) rfl; · (intro K hK; simp (disch := first | omega | decide) only [go_sem, f0]; exact hK _))
 refine aops_nil ?_
 apply AW.cond
 ·first | (simp only [go_sem, f0]; rfl) | (simp (disch := first | omega | decide) only [go_sem, f0]; rfl)
 case ht =>
  intro hb
  try simp only [bo1, bo2, bo3, bo4, bo5, bo6] at hb
  have hbt25 := hb
  refine AW.sr (cfg := cfg) ?_
  iterate 1 (apply aops_step (by decide) rfl; · (intro K hK; simp (disch := first | omega | decide) only [go_sem, f0]; exact hK _))
  refine aops_nil ?_
  refine AW.ret ?_
  refine ⟨.inr rfl, ?_⟩
  refine leaves_tmp1 2 rfl ?_ (by first | rfl | exact hG)
  simp (disch := first | omega | decide) only [go_sem, f0]
  all_goals first | (have z : lsaOK ⟨o, q, nil, ls⟩ = true := lsa_is hbt25 (mo0.trans links_end); simp [lsaE, z]; done) | (have z : lsaOK ⟨o, q, nil, ls⟩ = false := (by simp only [lsaOK, mo0, links_drop hk]; have y : linkOK o last ls[k] = false := (by cases hn : node ls[k].to <;> simp [linkOK, hn] at hbt59 ⊢; omega); simp [y]); simp [lsaE, z]; done) | (have z : lsaOK ⟨o, q, nil, ls⟩ = false := (by cases hn : node o <;> simp [lsaOK, hn] at hbt25 ⊢; omega); simp [lsaE, z]; done) | trace_state
 case hf =>
  intro hb
  try simp only [bo1, bo2, bo3, bo4, bo5, bo6] at hb
  have hbt25 := hb
  refine AW.skip ?_
  refine AW.sr (cfg := cfg) ?_
  iterate 1 (apply aops_step (by decide) rfl; · (intro K hK; simp (disch := first | omega | decide) only [go_sem, f0]; exact hK _))
  refine aops_nil ?_
  refine AW.seq ?_
  refine AW.sr (cfg := cfg) ?_
  first | refine aops_fl (by decide) (by decide) fo79_2 ti77 (by simp only [go_sem, f0]; rfl) (by simp only [go_sem, f0]; rfl) (by rfl) ?_ | refine aops_fl (by decide) (by decide) fo79_2 ti77 (by simp (disch := first | omega | decide) only [go_sem, f0]; rfl) (by simp (disch := first | omega | decide) only [go_sem, f0]; rfl) (by rfl) ?_
  iterate 2 (apply aops_step (by decide) rfl; · (intro K hK; simp (disch := first | omega | decide) only [go_sem, f0, List.map, List.length_map, aops_len u77]; exact hK _))
  refine aops_nil ?_
  refine AW.block ?_
  refine AW.forN (fun k σ => ∃ s m last, σ = ⟨63, s, m⟩ ∧ s 1 = .lptr (.tmp 1 0) (m.objs (.tmp 1 0)).1 0 ∧ (m.objs (.tmp 1 0)).2 = .box [.v (i64 o), .v (i64 q), .v (.sl 2 nil (ls.map linkA))] ∧ s 3 = .v (i64 last) ∧ s 27 = .v (.sl 2 nil (ls.map linkA)) ∧ s 28 = .v (i64 (ls.length : Int)) ∧ s 29 = .v (i64 (k : Int)) ∧ (linksOK o 0 ls = linksOK o last (ls.drop k)) ∧ m.G = []) (ls.length) ?_ ?_ ?_
  ·refine ⟨_, _, 0, rfl, ?_, ?_, ?_, ?_, ?_, ?_, ?_, (by first | exact hG | rfl | (simp only [mset_G, hG]; done) | (simp only [mset_G, hG]; rfl))⟩ <;> try simp (disch := first | omega | decide) only [go_sem, f0]
   all_goals first | rfl | trace_state
  ·clear f0 hG
   rintro k σ hk ⟨s, m, last, rfl, f1, o1, f3, f27, f28, f29, mo0, hG⟩
   obtain ⟨g1, o1⟩ : ∃ g, m.objs (.tmp 1 0) = (g, .box [.v (i64 o), .v (i64 q), .v (.sl 2 nil (ls.map linkA))]) := ⟨_, Prod.ext rfl o1⟩
   rw [o1] at f1
   refine AW.sr (cfg := cfg) ?_
   iterate 1 (apply aops_step (by decide) rfl; · (intro K hK; simp (disch := first | omega | decide) only [go_sem, f1, f3, f27, f28, f29, o1]; exact hK _))
   refine aops_nil ?_
   refine AW.seq ?_
   apply AW.cond
   ·first | (simp only [go_sem, f1, f3, f27, f28, f29, o1]; rfl) | (simp (disch := first | omega | decide) only [go_sem, f1, f3, f27, f28, f29, o1]; rfl)
   case hf => intro hb; first | (simp at hb; done) | (simp at hb; omega) | (have hb1 := of_decide_eq_false hb; omega) | (have hb1 := of_decide_eq_true hb; omega)
   case ht =>
   intro hb
   have hbt30 := hb
   refine AW.skip ?_
   refine AW.seq ?_
   refine AW.block ?_
   refine AW.sr (cfg := cfg) ?_
   apply aops_step (by decide) rfl
   ·intro K hK
    simp (disch := first | omega | decide) only [go_sem, f1, f3, f27, f28, f29, o1, act_indexAddr_s u77 ti124, List.map]
    first | rw [mwp_aIndex_own (by simp (disch := first | omega | decide) only [go_sem, f1, f3, f27, f28, f29, o1]; rfl) (by first | omega | (simp; omega)) (by first | omega | decide | (simp; omega))] | rw [mwp_aIndex_frz (by simp (disch := first | omega | decide) only [go_sem, f1, f3, f27, f28, f29, o1]; rfl) (by first | omega | (simp; omega)) (by first | omega | decide | (simp; omega))] | skip
    exact hK _
   apply aops_step (by decide) rfl
   ·intro K hK
    simp (disch := first | omega | decide) only [go_sem, f1, f3, f27, f28, f29, o1, act_load_t ti124, List.map]
    first | rw [mwp_load_i1 (by rfl)] | rw [mwp_load_is (by simp)] | rw [mwp_load_g1 (by first | (rw [hG]; rfl) | rfl | (simp only [mset_G, hG]; rfl)) (by rfl)] | rw [mwp_load_gs (by first | (rw [hG]; rfl) | rfl | (simp only [mset_G, hG]; rfl)) (by simp)] | rw [mwp_load_bs (by simp (disch := first | omega | decide) only [go_sem, f1, f3, f27, f28, f29, o1]; rfl) (by simp [setAt])] | rw [mwp_load_b1 (by simp only [go_sem, f1, f3, f27, f28, f29, o1]; rfl) (by rfl)] | rw [mwp_load_b1 (by simp (disch := first | omega | decide) only [go_sem, f1, f3, f27, f28, f29, o1]; rfl) (by rfl)] | rw [mwp_aLoad_map (by simp (disch := first | omega | decide) only [go_sem, f1, f3, f27, f28, f29, o1]; rfl) (by first | omega | decide | (simp; omega)) (fun _ => rfl)] | rw [mwp_aLoad_frz (by simp (disch := first | omega | decide) only [go_sem, f1, f3, f27, f28, f29, o1]; rfl) (by first | omega | decide | (simp; omega)) (fun _ => rfl)] | rw [mwp_aLoad_e1 (by simp (disch := first | omega | decide) only [go_sem, f1, f3, f27, f28, f29, o1]; rfl) (by first | rfl | simp) rfl] | rw [mwp_aLoad_f1 (by simp (disch := first | omega | decide) only [go_sem, f1, f3, f27, f28, f29, o1]; rfl) (by rfl) rfl] | skip
    exact hK _
   apply aops_step (by decide) rfl
   ·intro K hK
    simp (disch := first | omega | decide) only [go_sem, f1, f3, f27, f28, f29, o1, act_alloc_t ti124, List.map]
    exact hK _
   apply aops_step0 rfl
   ·intro K hK
    simp (disch := first | omega | decide) only [go_sem, f1, f3, f27, f28, f29, o1, act_store_t ti124, List.map]
    first | rw [mwp_store_g1 (by first | (rw [hG]; rfl) | rfl | (simp only [mset_G, hG]; rfl)) (by simp) rfl rfl] | rw [mwp_store_c (by simp (disch := first | omega | decide) only [go_sem, f1, f3, f27, f28, f29, o1]; rfl) (by rfl) (by rfl) (by rfl) (by simp)] | rw [mwp_store_o (by simp (disch := first | omega | decide) only [go_sem, f1, f3, f27, f28, f29, o1]; rfl) (by simp (disch := first | omega | decide) only [go_sem, f1, f3, f27, f28, f29, o1]; rfl) (by decide) (by simp)] | rw [mwp_aStore_map (by simp (disch := first | omega | decide) only [go_sem, f1, f3, f27, f28, f29, o1]; rfl) (by first | omega | (simp; omega)) (fun _ => rfl) rfl rfl (fun _ => rfl)] | (refine mwp_store_gen (by simp (disch := first | omega | decide) only [go_sem, f1, f3, f27, f28, f29, o1]; rfl) ?_; simp only [cellsL]; (try simp only [List.drop_zero, List.drop_succ_cons, List.take_succ_cons, List.take_zero]); (repeat (first | rw [mwp_settleL_v (by rfl)] | rw [mwp_settleL_own (by simp only [go_sem, f1, f3, f27, f28, f29, o1]; rfl)] | rw [mwp_settleL_own (by simp (disch := first | omega | decide) only [go_sem, f1, f3, f27, f28, f29, o1]; rfl)] | rw [mwp_settleL_frz (by simp only [go_sem, f1, f3, f27, f28, f29, o1]; rfl)] | rw [mwp_settleL_frz (by simp (disch := first | omega | decide) only [go_sem, f1, f3, f27, f28, f29, o1]; rfl)] | rw [mwp_settleL_cell (by decide) (by simp (disch := first | omega | decide) only [go_sem, f1, f3, f27, f28, f29, o1]; rfl)] | rw [mwp_settleL_cellf (by decide) (by simp (disch := first | omega | decide) only [go_sem, f1, f3, f27, f28, f29, o1]; rfl)] | rw [mwp_settleL_var (by simp (disch := first | omega | decide) only [go_sem, f1, f3, f27, f28, f29, o1]; rfl)])); rw [mwp_settleL_nil]; refine ⟨by simp (disch := first | omega | decide) only [go_sem, f1, f3, f27, f28, f29, o1] <;> rfl, rfl, by simp, ?_⟩) | skip
    try simp only [setAt, cellsL, cellsOf_agg, cellsOf_base, List.map_cons, List.map_nil, List.set_cons_zero, List.set_cons_succ, Nat.reduceAdd, Nat.zero_add, hG]
    exact hK _
   refine aops_nil ?_
   refine AW.seq ?_
   refine AW.sr (cfg := cfg) ?_
   first | refine aops_fl (by decide) (by decide) fo124_0 ti3 (by simp only [go_sem, f1, f3, f27, f28, f29, o1]; rfl) (by simp only [go_sem, f1, f3, f27, f28, f29, o1]; rfl) (by rfl) ?_ | refine aops_fl (by decide) (by decide) fo124_0 ti3 (by simp (disch := first | omega | decide) only [go_sem, f1, f3, f27, f28, f29, o1]; rfl) (by simp (disch := first | omega | decide) only [go_sem, f1, f3, f27, f28, f29, o1]; rfl) (by rfl) ?_
   apply aops_step (by decide) rfl
   ·intro K hK
    simp (disch := first | omega | decide) only [go_sem, f1, f3, f27, f28, f29, o1, act_call, List.map]
    apply mwp_call_s rfl rfl rfl
    ·intro Q hQ
     first | (simp (disch := first | omega | decide) only [go_sem, f1, f3, f27, f28, f29, o1, peekL, reifyL_nil, reifyL_cons, reify_v]; (first | exact hQ | (((first | rw [peek_own (by simp (disch := first | omega | decide) only [go_sem, f1, f3, f27, f28, f29, o1, peekL, reifyL_nil, reifyL_cons, reify_v]; rfl)] | rw [mwp_reify_own (by simp only [go_sem, f1, f3, f27, f28, f29, o1, peekL, reifyL_nil, reifyL_cons, reify_v]; rfl)] | rw [mwp_reify_own (by simp (disch := first | omega | decide) only [go_sem, f1, f3, f27, f28, f29, o1, peekL, reifyL_nil, reifyL_cons, reify_v]; rfl)] | rw [peek_frz (by simp (disch := first | omega | decide) only [go_sem, f1, f3, f27, f28, f29, o1, peekL, reifyL_nil, reifyL_cons, reify_v]; rfl)] | rw [reify_frz (by simp (disch := first | omega | decide) only [go_sem, f1, f3, f27, f28, f29, o1, peekL, reifyL_nil, reifyL_cons, reify_v]; rfl)]); (try rw [sub_full (by first | rfl | (simp only [List.length_map, List.length_replicate]; done) | (simp; done) | (simp; omega))])); exact hQ) | (((first | rw [peek_own (by simp (disch := first | omega | decide) only [go_sem, f1, f3, f27, f28, f29, o1, peekL, reifyL_nil, reifyL_cons, reify_v]; rfl)] | rw [mwp_reify_own (by simp only [go_sem, f1, f3, f27, f28, f29, o1, peekL, reifyL_nil, reifyL_cons, reify_v]; rfl)] | rw [mwp_reify_own (by simp (disch := first | omega | decide) only [go_sem, f1, f3, f27, f28, f29, o1, peekL, reifyL_nil, reifyL_cons, reify_v]; rfl)] | rw [peek_frz (by simp (disch := first | omega | decide) only [go_sem, f1, f3, f27, f28, f29, o1, peekL, reifyL_nil, reifyL_cons, reify_v]; rfl)] | rw [reify_frz (by simp (disch := first | omega | decide) only [go_sem, f1, f3, f27, f28, f29, o1, peekL, reifyL_nil, reifyL_cons, reify_v]; rfl)]); (try rw [sub_full (by first | rfl | (simp only [List.length_map, List.length_replicate]; done) | (simp; done) | (simp; omega))])); (try simp (disch := first | omega | decide) only [go_sem, f1, f3, f27, f28, f29, o1, peekL, reifyL_nil, reifyL_cons, reify_v]); ((first | rw [peek_own (by simp (disch := first | omega | decide) only [go_sem, f1, f3, f27, f28, f29, o1, peekL, reifyL_nil, reifyL_cons, reify_v]; rfl)] | rw [mwp_reify_own (by simp only [go_sem, f1, f3, f27, f28, f29, o1, peekL, reifyL_nil, reifyL_cons, reify_v]; rfl)] | rw [mwp_reify_own (by simp (disch := first | omega | decide) only [go_sem, f1, f3, f27, f28, f29, o1, peekL, reifyL_nil, reifyL_cons, reify_v]; rfl)] | rw [peek_frz (by simp (disch := first | omega | decide) only [go_sem, f1, f3, f27, f28, f29, o1, peekL, reifyL_nil, reifyL_cons, reify_v]; rfl)] | rw [reify_frz (by simp (disch := first | omega | decide) only [go_sem, f1, f3, f27, f28, f29, o1, peekL, reifyL_nil, reifyL_cons, reify_v]; rfl)]); (try rw [sub_full (by first | rfl | (simp only [List.length_map, List.length_replicate]; done) | (simp; done) | (simp; omega))])); exact hQ) | (((first | rw [peek_own (by simp (disch := first | omega | decide) only [go_sem, f1, f3, f27, f28, f29, o1, peekL, reifyL_nil, reifyL_cons, reify_v]; rfl)] | rw [mwp_reify_own (by simp only [go_sem, f1, f3, f27, f28, f29, o1, peekL, reifyL_nil, reifyL_cons, reify_v]; rfl)] | rw [mwp_reify_own (by simp (disch := first | omega | decide) only [go_sem, f1, f3, f27, f28, f29, o1, peekL, reifyL_nil, reifyL_cons, reify_v]; rfl)] | rw [peek_frz (by simp (disch := first | omega | decide) only [go_sem, f1, f3, f27, f28, f29, o1, peekL, reifyL_nil, reifyL_cons, reify_v]; rfl)] | rw [reify_frz (by simp (disch := first | omega | decide) only [go_sem, f1, f3, f27, f28, f29, o1, peekL, reifyL_nil, reifyL_cons, reify_v]; rfl)]); (try rw [sub_full (by first | rfl | (simp only [List.length_map, List.length_replicate]; done) | (simp; done) | (simp; omega))])); simp (disch := first | omega | decide) only [go_sem, f1, f3, f27, f28, f29, o1, peekL, reifyL_nil, reifyL_cons, reify_v]; exact hQ))) | ((try simp only [opn_agg, opn_own, opn_v]); (try simp only [List.drop_zero, List.drop_succ_cons, List.take_succ_cons, List.take_zero]); (repeat (first | rw [mwp_peekL_agg] | rw [mwp_peekL_v] | rw [mwp_peekL_arr (by simp only [go_sem, f1, f3, f27, f28, f29, o1]; rfl)] | rw [mwp_peekL_arr (by simp (disch := first | omega | decide) only [go_sem, f1, f3, f27, f28, f29, o1]; rfl)] | rw [mwp_peekL_frz (by simp only [go_sem, f1, f3, f27, f28, f29, o1]; rfl)] | rw [mwp_peekL_frz (by simp (disch := first | omega | decide) only [go_sem, f1, f3, f27, f28, f29, o1]; rfl)] | rw [mwp_peekL_nil] | rw [mwp_reifyL_agg] | rw [mwp_reifyL_v] | rw [mwp_reifyL_arr (by simp only [go_sem, f1, f3, f27, f28, f29, o1]; rfl)] | rw [mwp_reifyL_arr (by simp (disch := first | omega | decide) only [go_sem, f1, f3, f27, f28, f29, o1]; rfl)] | rw [mwp_reifyL_frz (by simp only [go_sem, f1, f3, f27, f28, f29, o1]; rfl)] | rw [mwp_reifyL_frz (by simp (disch := first | omega | decide) only [go_sem, f1, f3, f27, f28, f29, o1]; rfl)] | rw [mwp_reifyL_nil])); (repeat (rw [sub_full (by first | rfl | (simp only [List.length_map, List.length_replicate]; done) | (simp; done) | (simp; omega))])); exact hQ)
    ·exact good_node _
    ·simp [-List.map_take, -List.map_drop, -List.map_append, -List.map_replicate, -List.reduceReplicate, noPtrL, noPtr, noPtrL_bsl, noPtrL_map, sub]
    ·rfl
    ·exact hK _
   iterate 2 (apply aops_step (by decide) rfl; · (intro K hK; simp (disch := first | omega | decide) only [go_sem, f1, f3, f27, f28, f29, o1]; exact hK _))
   first | refine aops_flm (dg := 37) (by decide) (by decide) (by decide) fo124_0 ti3 rfl (by simp only [go_sem, f1, f3, f27, f28, f29, o1]; rfl) (by simp only [go_sem, f1, f3, f27, f28, f29, o1]; rfl) (by simp only [go_sem, f1, f3, f27, f28, f29, o1]; rfl) (by rfl) ?_ | refine aops_flc (dg := 37) (by decide) (by decide) (by decide) fo124_0 ti3 rfl (by simp only [go_sem, f1, f3, f27, f28, f29, o1]; rfl) (by simp only [go_sem, f1, f3, f27, f28, f29, o1]; rfl) (by simp only [go_sem, f1, f3, f27, f28, f29, o1]; rfl) (by rfl) ?_ | refine aops_flm (dg := 37) (by decide) (by decide) (by decide) fo124_0 ti3 rfl (by simp (disch := first | omega | decide) only [go_sem, f1, f3, f27, f28, f29, o1]; rfl) (by simp (disch := first | omega | decide) only [go_sem, f1, f3, f27, f28, f29, o1]; rfl) (by simp (disch := first | omega | decide) only [go_sem, f1, f3, f27, f28, f29, o1]; rfl) (by rfl) ?_ | refine aops_flc (dg := 37) (by decide) (by decide) (by decide) fo124_0 ti3 rfl (by simp (disch := first | omega | decide) only [go_sem, f1, f3, f27, f28, f29, o1]; rfl) (by simp (disch := first | omega | decide) only [go_sem, f1, f3, f27, f28, f29, o1]; rfl) (by simp (disch := first | omega | decide) only [go_sem, f1, f3, f27, f28, f29, o1]; rfl) (by rfl) ?_
   apply aops_merge' (by decide) (by first | exact want_of (d := 37) rfl (by simp only [go_sem, f1, f3, f27, f28, f29, o1, opn_cond]; rfl) | exact want_of (d := 37) rfl (by simp (disch := first | omega | decide) only [go_sem, f1, f3, f27, f28, f29, o1, opn_cond]; rfl) | exact want_of_cond (d := 37) rfl (by simp only [go_sem, f1, f3, f27, f28, f29, o1, opn_cond]; rfl) | exact want_of_cond (d := 37) rfl (by simp (disch := first | omega | decide) only [go_sem, f1, f3, f27, f28, f29, o1, opn_cond]; rfl))
   ·intro hc K hK
    simp (disch := first | omega | decide) only [go_sem, f1, f3, f27, f28, f29, o1, opn_cond, hc, if_true]
    exact hK _
   apply aops_merge' (by decide) (by first | exact want_of (d := 37) rfl (by simp only [go_sem, f1, f3, f27, f28, f29, o1, opn_cond]; rfl) | exact want_of (d := 37) rfl (by simp (disch := first | omega | decide) only [go_sem, f1, f3, f27, f28, f29, o1, opn_cond]; rfl) | exact want_of_cond (d := 37) rfl (by simp only [go_sem, f1, f3, f27, f28, f29, o1, opn_cond]; rfl) | exact want_of_cond (d := 37) rfl (by simp (disch := first | omega | decide) only [go_sem, f1, f3, f27, f28, f29, o1, opn_cond]; rfl))
   ·intro hc K hK
    simp (disch := first | omega | decide) only [go_sem, f1, f3, f27, f28, f29, o1, opn_cond, hc, if_true]
    exact hK _
   iterate 2 (apply aops_step (by decide) rfl; · (intro K hK; simp (disch := first | omega | decide) only [go_sem, f1, f3, f27, f28, f29, o1]; exact hK _))
   first | refine aops_flm (dg := 43) (by decide) (by decide) (by decide) fo124_0 ti3 rfl (by simp only [go_sem, f1, f3, f27, f28, f29, o1]; rfl) (by simp only [go_sem, f1, f3, f27, f28, f29, o1]; rfl) (by simp only [go_sem, f1, f3, f27, f28, f29, o1]; rfl) (by rfl) ?_ | refine aops_flc (dg := 43) (by decide) (by decide) (by decide) fo124_0 ti3 rfl (by simp only [go_sem, f1, f3, f27, f28, f29, o1]; rfl) (by simp only [go_sem, f1, f3, f27, f28, f29, o1]; rfl) (by simp only [go_sem, f1, f3, f27, f28, f29, o1]; rfl) (by rfl) ?_ | refine aops_flm (dg := 43) (by decide) (by decide) (by decide) fo124_0 ti3 rfl (by simp (disch := first | omega | decide) only [go_sem, f1, f3, f27, f28, f29, o1]; rfl) (by simp (disch := first | omega | decide) only [go_sem, f1, f3, f27, f28, f29, o1]; rfl) (by simp (disch := first | omega | decide) only [go_sem, f1, f3, f27, f28, f29, o1]; rfl) (by rfl) ?_ | refine aops_flc (dg := 43) (by decide) (by decide) (by decide) fo124_0 ti3 rfl (by simp (disch := first | omega | decide) only [go_sem, f1, f3, f27, f28, f29, o1]; rfl) (by simp (disch := first | omega | decide) only [go_sem, f1, f3, f27, f28, f29, o1]; rfl) (by simp (disch := first | omega | decide) only [go_sem, f1, f3, f27, f28, f29, o1]; rfl) (by rfl) ?_
   first | refine aops_flm (dg := 43) (by decide) (by decide) (by decide) fo79_0 ti3 rfl (by simp only [go_sem, f1, f3, f27, f28, f29, o1]; rfl) (by simp only [go_sem, f1, f3, f27, f28, f29, o1]; rfl) (by simp only [go_sem, f1, f3, f27, f28, f29, o1]; rfl) (by rfl) ?_ | refine aops_flc (dg := 43) (by decide) (by decide) (by decide) fo79_0 ti3 rfl (by simp only [go_sem, f1, f3, f27, f28, f29, o1]; rfl) (by simp only [go_sem, f1, f3, f27, f28, f29, o1]; rfl) (by simp only [go_sem, f1, f3, f27, f28, f29, o1]; rfl) (by rfl) ?_ | refine aops_flm (dg := 43) (by decide) (by decide) (by decide) fo79_0 ti3 rfl (by simp (disch := first | omega | decide) only [go_sem, f1, f3, f27, f28, f29, o1]; rfl) (by simp (disch := first | omega | decide) only [go_sem, f1, f3, f27, f28, f29, o1]; rfl) (by simp (disch := first | omega | decide) only [go_sem, f1, f3, f27, f28, f29, o1]; rfl) (by rfl) ?_ | refine aops_flc (dg := 43) (by decide) (by decide) (by decide) fo79_0 ti3 rfl (by simp (disch := first | omega | decide) only [go_sem, f1, f3, f27, f28, f29, o1]; rfl) (by simp (disch := first | omega | decide) only [go_sem, f1, f3, f27, f28, f29, o1]; rfl) (by simp (disch := first | omega | decide) only [go_sem, f1, f3, f27, f28, f29, o1]; rfl) (by rfl) ?_
   apply aops_merge' (by decide) (by first | exact want_of (d := 43) rfl (by simp only [go_sem, f1, f3, f27, f28, f29, o1, opn_cond]; rfl) | exact want_of (d := 43) rfl (by simp (disch := first | omega | decide) only [go_sem, f1, f3, f27, f28, f29, o1, opn_cond]; rfl) | exact want_of_cond (d := 43) rfl (by simp only [go_sem, f1, f3, f27, f28, f29, o1, opn_cond]; rfl) | exact want_of_cond (d := 43) rfl (by simp (disch := first | omega | decide) only [go_sem, f1, f3, f27, f28, f29, o1, opn_cond]; rfl))
   ·intro hc K hK
    simp (disch := first | omega | decide) only [go_sem, f1, f3, f27, f28, f29, o1, opn_cond, hc, if_true]
    exact hK _
   iterate 2 (apply aops_step (by decide) rfl; · (intro K hK; simp (disch := first | omega | decide) only [go_sem, f1, f3, f27, f28, f29, o1]; exact hK _))
   first | refine aops_flm (dg := 50) (by decide) (by decide) (by decide) fo124_1 ti3 rfl (by simp only [go_sem, f1, f3, f27, f28, f29, o1]; rfl) (by simp only [go_sem, f1, f3, f27, f28, f29, o1]; rfl) (by simp only [go_sem, f1, f3, f27, f28, f29, o1]; rfl) (by rfl) ?_ | refine aops_flc (dg := 50) (by decide) (by decide) (by decide) fo124_1 ti3 rfl (by simp only [go_sem, f1, f3, f27, f28, f29, o1]; rfl) (by simp only [go_sem, f1, f3, f27, f28, f29, o1]; rfl) (by simp only [go_sem, f1, f3, f27, f28, f29, o1]; rfl) (by rfl) ?_ | refine aops_flm (dg := 50) (by decide) (by decide) (by decide) fo124_1 ti3 rfl (by simp (disch := first | omega | decide) only [go_sem, f1, f3, f27, f28, f29, o1]; rfl) (by simp (disch := first | omega | decide) only [go_sem, f1, f3, f27, f28, f29, o1]; rfl) (by simp (disch := first | omega | decide) only [go_sem, f1, f3, f27, f28, f29, o1]; rfl) (by rfl) ?_ | refine aops_flc (dg := 50) (by decide) (by decide) (by decide) fo124_1 ti3 rfl (by simp (disch := first | omega | decide) only [go_sem, f1, f3, f27, f28, f29, o1]; rfl) (by simp (disch := first | omega | decide) only [go_sem, f1, f3, f27, f28, f29, o1]; rfl) (by simp (disch := first | omega | decide) only [go_sem, f1, f3, f27, f28, f29, o1]; rfl) (by rfl) ?_
   apply aops_merge' (by decide) (by first | exact want_of (d := 50) rfl (by simp only [go_sem, f1, f3, f27, f28, f29, o1, opn_cond]; rfl) | exact want_of (d := 50) rfl (by simp (disch := first | omega | decide) only [go_sem, f1, f3, f27, f28, f29, o1, opn_cond]; rfl) | exact want_of_cond (d := 50) rfl (by simp only [go_sem, f1, f3, f27, f28, f29, o1, opn_cond]; rfl) | exact want_of_cond (d := 50) rfl (by simp (disch := first | omega | decide) only [go_sem, f1, f3, f27, f28, f29, o1, opn_cond]; rfl))
   ·intro hc K hK
    simp (disch := first | omega | decide) only [go_sem, f1, f3, f27, f28, f29, o1, opn_cond, hc, if_true]
    exact hK _
   iterate 2 (apply aops_step (by decide) rfl; · (intro K hK; simp (disch := first | omega | decide) only [go_sem, f1, f3, f27, f28, f29, o1]; exact hK _))
   first | refine aops_flm (dg := 55) (by decide) (by decide) (by decide) fo124_1 ti3 rfl (by simp only [go_sem, f1, f3, f27, f28, f29, o1]; rfl) (by simp only [go_sem, f1, f3, f27, f28, f29, o1]; rfl) (by simp only [go_sem, f1, f3, f27, f28, f29, o1]; rfl) (by rfl) ?_ | refine aops_flc (dg := 55) (by decide) (by decide) (by decide) fo124_1 ti3 rfl (by simp only [go_sem, f1, f3, f27, f28, f29, o1]; rfl) (by simp only [go_sem, f1, f3, f27, f28, f29, o1]; rfl) (by simp only [go_sem, f1, f3, f27, f28, f29, o1]; rfl) (by rfl) ?_ | refine aops_flm (dg := 55) (by decide) (by decide) (by decide) fo124_1 ti3 rfl (by simp (disch := first | omega | decide) only [go_sem, f1, f3, f27, f28, f29, o1]; rfl) (by simp (disch := first | omega | decide) only [go_sem, f1, f3, f27, f28, f29, o1]; rfl) (by simp (disch := first | omega | decide) only [go_sem, f1, f3, f27, f28, f29, o1]; rfl) (by rfl) ?_ | refine aops_flc (dg := 55) (by decide) (by decide) (by decide) fo124_1 ti3 rfl (by simp (disch := first | omega | decide) only [go_sem, f1, f3, f27, f28, f29, o1]; rfl) (by simp (disch := first | omega | decide) only [go_sem, f1, f3, f27, f28, f29, o1]; rfl) (by simp (disch := first | omega | decide) only [go_sem, f1, f3, f27, f28, f29, o1]; rfl) (by rfl) ?_
   apply aops_merge' (by decide) (by first | exact want_of (d := 55) rfl (by simp only [go_sem, f1, f3, f27, f28, f29, o1, opn_cond]; rfl) | exact want_of (d := 55) rfl (by simp (disch := first | omega | decide) only [go_sem, f1, f3, f27, f28, f29, o1, opn_cond]; rfl) | exact want_of_cond (d := 55) rfl (by simp only [go_sem, f1, f3, f27, f28, f29, o1, opn_cond]; rfl) | exact want_of_cond (d := 55) rfl (by simp (disch := first | omega | decide) only [go_sem, f1, f3, f27, f28, f29, o1, opn_cond]; rfl))
   ·intro hc K hK
    simp (disch := first | omega | decide) only [go_sem, f1, f3, f27, f28, f29, o1, opn_cond, hc, if_true]
    exact hK _
   iterate 1 (apply aops_step (by decide) rfl; · (intro K hK; simp (disch := first | omega | decide) only [go_sem, f1, f3, f27, f28, f29, o1]; exact hK _))
   refine aops_nil ?_
   apply AW.cond
   ·first | (simp only [go_sem, f1, f3, f27, f28, f29, o1]; rfl) | (simp (disch := first | omega | decide) only [go_sem, f1, f3, f27, f28, f29, o1]; rfl)
   case ht =>
    intro hb
    try simp only [bo1, bo2, bo3, bo4, bo5, bo6] at hb
    have hbt59 := hb
    refine AW.sr (cfg := cfg) ?_
    iterate 1 (apply aops_step (by decide) rfl; · (intro K hK; simp (disch := first | omega | decide) only [go_sem, f1, f3, f27, f28, f29, o1]; exact hK _))
    refine aops_nil ?_
    refine AW.ret ?_
    refine ⟨.inr rfl, ?_⟩
    refine leaves_tmp1 2 rfl ?_ (by first | rfl | exact hG)
    simp (disch := first | omega | decide) only [go_sem, f1, f3, f27, f28, f29, o1]
    all_goals first | (have z : lsaOK ⟨o, q, nil, ls⟩ = true := lsa_is hbt25 (mo0.trans links_end); simp [lsaE, z]; done) | (have z : lsaOK ⟨o, q, nil, ls⟩ = false := (by simp only [lsaOK, mo0, links_drop hk]; have y : linkOK o last ls[k] = false := (by cases hn : node ls[k].to <;> simp [linkOK, hn] at hbt59 ⊢; omega); simp [y]); simp [lsaE, z]; done) | (have z : lsaOK ⟨o, q, nil, ls⟩ = false := (by cases hn : node o <;> simp [lsaOK, hn] at hbt25 ⊢; omega); simp [lsaE, z]; done) | trace_state
   case hf =>
    intro hb
    try simp only [bo1, bo2, bo3, bo4, bo5, bo6] at hb
    have hbt59 := hb
    refine AW.skip ?_
    refine AW.region (cfg := cfg) ?_
    first | refine aops_fl (by decide) (by decide) fo124_0 ti3 (by simp only [go_sem, f1, f3, f27, f28, f29, o1]; rfl) (by simp only [go_sem, f1, f3, f27, f28, f29, o1]; rfl) (by rfl) ?_ | refine aops_fl (by decide) (by decide) fo124_0 ti3 (by simp (disch := first | omega | decide) only [go_sem, f1, f3, f27, f28, f29, o1]; rfl) (by simp (disch := first | omega | decide) only [go_sem, f1, f3, f27, f28, f29, o1]; rfl) (by rfl) ?_
    iterate 1 (apply aops_step (by decide) rfl; · (intro K hK; simp (disch := first | omega | decide) only [go_sem, f1, f3, f27, f28, f29, o1]; exact hK _))
    refine aops_nil ?_
    refine AW.region (cfg := cfg) ?_
    iterate 2 (apply aops_step (by decide) rfl; · (intro K hK; simp (disch := first | omega | decide) only [go_sem, f1, f3, f27, f28, f29, o1]; exact hK _))
    refine aops_nil ?_
    refine ⟨_, _, ?_, rfl, ?_, ?_, ?_, ?_, ?_, ?_, ?_, (by first | exact hG | rfl | (simp only [mset_G, hG]; done) | (simp only [mset_G, hG]; rfl))⟩ <;> try simp (disch := first | omega | decide) only [go_sem, f1, f3, f27, f28, f29, o1]
    all_goals first | rfl | skip
    all_goals first | (rw [mo0, links_drop hk, link_is hbt59, Bool.true_and]; done) | trace_state
  ·clear f0 hG
   rintro σ ⟨s, m, last, rfl, f1, o1, f3, f27, f28, f29, mo0, hG⟩
   obtain ⟨g1, o1⟩ : ∃ g, m.objs (.tmp 1 0) = (g, .box [.v (i64 o), .v (i64 q), .v (.sl 2 nil (ls.map linkA))]) := ⟨_, Prod.ext rfl o1⟩
   rw [o1] at f1
   refine AW.sr (cfg := cfg) ?_
   iterate 1 (apply aops_step (by decide) rfl; · (intro K hK; simp (disch := first | omega | decide) only [go_sem, f1, f3, f27, f28, f29, o1]; exact hK _))
   refine aops_nil ?_
   refine AW.seq ?_
   apply AW.cond
   ·first | (simp only [go_sem, f1, f3, f27, f28, f29, o1]; rfl) | (simp (disch := first | omega | decide) only [go_sem, f1, f3, f27, f28, f29, o1]; rfl)
   case ht => intro hb; first | (simp at hb; done) | (simp at hb; omega) | (have hb1 := of_decide_eq_false hb; omega) | (have hb1 := of_decide_eq_true hb; omega)
   case hf =>
   intro hb
   have hbt30 := hb
   refine AW.exit ?_
   refine AW.sr (cfg := cfg) ?_
   iterate 1 (apply aops_step (by decide) rfl; · (intro K hK; simp (disch := first | omega | decide) only [go_sem, f1, f3, f27, f28, f29, o1]; exact hK _))
   refine aops_nil ?_
   refine AW.ret ?_
   refine ⟨.inr rfl, ?_⟩
   refine leaves_tmp1 2 rfl ?_ (by first | rfl | exact hG)
   simp (disch := first | omega | decide) only [go_sem, f1, f3, f27, f28, f29, o1]
   all_goals first | (have z : lsaOK ⟨o, q, nil, ls⟩ = true := lsa_is hbt25 (mo0.trans links_end); simp [lsaE, z]; done) | (have z : lsaOK ⟨o, q, nil, ls⟩ = false := (by simp only [lsaOK, mo0, links_drop hk]; have y : linkOK o last ls[k] = false := (by cases hn : node ls[k].to <;> simp [linkOK, hn] at hbt59 ⊢; omega); simp [y]); simp [lsaE, z]; done) | (have z : lsaOK ⟨o, q, nil, ls⟩ = false := (by cases hn : node o <;> simp [lsaOK, hn] at hbt25 ⊢; omega); simp [lsaE, z]; done) | trace_state
theorem good_refMay (o q : Int) (nil : Bool) (ls : List LinkS) (hl : ls.length ≤ 9223372036854775807) : Good Try.prog 44 [(.agg [i64 o, i64 q, .sl 2 nil (ls.map linkA)], false)] [] [(.b (lsaOK ⟨o, q, nil, ls⟩), false)] [] := by
 refine good_of_body2 82 Try.func44 rfl rfl rfl (by simp) ?_
 intro s m ha hr hv hG
 have f0 : s 0 = .v (.agg [i64 o, i64 q, .sl 2 nil (ls.map linkA)]) := ha 0 _ rfl
 clear ha
 refine AW.sr (cfg := cfg) ?_
 apply aops_step (by decide) rfl
 ·intro K hK
  simp (disch := first | omega | decide) only [go_sem, f0, act_box_t ti79, List.map]
  rw [settleL_vish _ _ (by rfl)]
  simp (disch := first | omega | decide) only [go_sem, f0, cellsL, List.map, List.length_cons, List.length_nil, Nat.reduceAdd, if_true]
  exact hK _
 iterate 1 (apply aops_step (by decide) rfl; · (intro K hK; simp (disch := first | omega | decide) only [go_sem, f0]; exact hK _))
 refine aops_nil ?_
 refine AW.seq ?_
 refine AW.sr (cfg := cfg) ?_
 iterate 1 (apply aops_step (by decide) rfl; · (intro K hK; simp (disch := first | omega | decide) only [go_sem, f0]; exact hK _))
 refine aops_nil ?_
 refine AW.block ?_
 refine AW.forN (fun k σ => ∃ s m, σ = ⟨82, s, m⟩ ∧ s 1 = .lptr (.tmp 1 0) (m.objs (.tmp 1 0)).1 0 ∧ (m.objs (.tmp 1 0)).2 = .box [.v (i64 o), .v (i64 q), .v (.sl 2 nil (ls.map linkA))] ∧ s 3 = .v (i64 (k : Int)) ∧ (linksOK o 0 ls = linksOK o (lastOf ls k) (ls.drop k)) ∧ m.G = []) (ls.length) ?_ ?_ ?_
 ·refine ⟨_, _, rfl, ?_, ?_, ?_, ?_, (by exact hG)⟩ <;> try simp (disch := first | omega | decide) only [go_sem, f0]
  all_goals rfl
 ·clear f0 hG
  rintro k σ hk ⟨s, m, rfl, f1, o1, f3, mo0, hG⟩
  obtain ⟨g1, o1⟩ : ∃ g, m.objs (.tmp 1 0) = (g, .box [.v (i64 o), .v (i64 q), .v (.sl 2 nil (ls.map linkA))]) := ⟨_, Prod.ext rfl o1⟩
  rw [o1] at f1
  refine AW.seq ?_
  refine AW.sr (cfg := cfg) ?_
  iterate 1 (apply aops_step (by decide) rfl; · (intro K hK; simp (disch := first | omega | decide) only [go_sem, f1, f3, o1]; exact hK _))
  refine aops_fl (by decide) (by decide) fo79_2 ti77 (by simp (disch := first | omega | decide) only [go_sem, f1, f3, o1]; rfl) (by simp (disch := first | omega | decide) only [go_sem, f1, f3, o1]; rfl) (by rfl) ?_
  iterate 2 (apply aops_step (by decide) rfl; · (intro K hK; simp (disch := first | omega | decide) only [go_sem, f1, f3, o1, List.map, List.length_map, aops_len u77]; exact hK _))
  refine aops_nil ?_
  apply AW.cond
  ·(simp only [go_sem, f1, f3, o1]; rfl)
  case hf => intro hb; (simp at hb; omega)
  case ht =>
  intro hb
  have hbt9 := hb
  refine AW.skip ?_
  refine AW.seq ?_
  refine AW.block ?_
  refine AW.sr (cfg := cfg) ?_
  refine aops_fl (by decide) (by decide) fo79_2 ti77 (by simp (disch := first | omega | decide) only [go_sem, f1, f3, o1]; rfl) (by simp (disch := first | omega | decide) only [go_sem, f1, f3, o1]; rfl) (by rfl) ?_
  iterate 1 (apply aops_step (by decide) rfl; · (intro K hK; simp (disch := first | omega | decide) only [go_sem, f1, f3, o1]; exact hK _))
  apply aops_step (by decide) rfl
  ·intro K hK
   simp (disch := first | omega | decide) only [go_sem, f1, f3, o1, act_indexAddr_s u77 ti124, List.map]
   skip
   exact hK _
  apply aops_step (by decide) rfl
  ·intro K hK
   simp (disch := first | omega | decide) only [go_sem, f1, f3, o1, act_load_t ti124, List.map]
   rw [mwp_load_is (by simp)]
   exact hK _
  apply aops_step (by decide) rfl
  ·intro K hK
   simp (disch := first | omega | decide) only [go_sem, f1, f3, o1, act_alloc_t ti124, List.map]
   exact hK _
  apply aops_step0 rfl
  ·intro K hK
   simp (disch := first | omega | decide) only [go_sem, f1, f3, o1, act_store_t ti124, List.map]
   rw [mwp_store_c (by simp (disch := first | omega | decide) only [go_sem, f1, f3, o1]; rfl) (by rfl) (by rfl) (by rfl) (by simp)]
   try simp only [setAt, cellsL, cellsOf_agg, cellsOf_base, List.map_cons, List.map_nil, List.set_cons_zero, List.set_cons_succ, Nat.reduceAdd, Nat.zero_add, hG]
   exact hK _
  refine aops_nil ?_
  refine AW.seq ?_
  refine AW.draw (cfg := cfg) (by kernel_rfl) (by kernel_rfl) (by kernel_rfl) ?_
  apply adraw_step rfl
  ·intro K hK
   simp (disch := first | omega | decide) only [go_sem, f1, f3, o1, act_fieldAddr_t fo124_0, List.map]
   rw [mwp_fieldAddr_b (by simp only [go_sem, f1, f3, o1]; rfl)]
   exact hK
  apply adraw_step rfl
  ·intro K hK
   simp (disch := first | omega | decide) only [go_sem, f1, f3, o1, act_load_t ti3, List.map]
   rw [mwp_load_b1 (by simp only [go_sem, f1, f3, o1]; rfl) (by rfl)]
   exact hK
  iterate 2 (apply adraw_step rfl; · (intro K hK; simp (disch := first | omega | decide) only [go_sem, f1, f3, o1]; exact hK))
  apply adraw_merge' (by exact want_of (d := 20) rfl (by simp only [go_sem, f1, f3, o1, opn_cond]; rfl))
  ·intro hc K hK
   simp (disch := first | omega | decide) only [go_sem, f1, f3, o1, opn_cond, hc, if_true, act_fieldAddr_t fo124_0]
   rw [mwp_fieldAddr_b (by simp only [go_sem, f1, f3, o1, opn_cond, hc, if_true]; rfl)]
   exact hK
  apply adraw_merge' (by exact want_of (d := 20) rfl (by simp only [go_sem, f1, f3, o1, opn_cond]; rfl))
  ·intro hc K hK
   simp (disch := first | omega | decide) only [go_sem, f1, f3, o1, opn_cond, hc, if_true, act_load_t ti3]
   rw [mwp_load_b1 (by simp only [go_sem, f1, f3, o1, opn_cond, hc, if_true]; rfl) (by rfl)]
   exact hK
  apply adraw_merge' (by exact want_of (d := 20) rfl (by simp only [go_sem, f1, f3, o1, opn_cond]; rfl))
  ·intro hc K hK
   simp (disch := first | omega | decide) only [go_sem, f1, f3, o1, opn_cond, hc, if_true]
   exact hK
  iterate 2 (apply adraw_step rfl; · (intro K hK; simp (disch := first | omega | decide) only [go_sem, f1, f3, o1]; exact hK))
  apply adraw_merge' (by exact want_of (d := 25) rfl (by simp only [go_sem, f1, f3, o1, opn_cond]; rfl))
  ·intro hc K hK
   simp (disch := first | omega | decide) only [go_sem, f1, f3, o1, opn_cond, hc, if_true, act_fieldAddr_t fo124_0]
   rw [mwp_fieldAddr_b (by simp only [go_sem, f1, f3, o1, opn_cond, hc, if_true]; rfl)]
   exact hK
  apply adraw_merge' (by exact want_of (d := 25) rfl (by simp only [go_sem, f1, f3, o1, opn_cond]; rfl))
  ·intro hc K hK
   simp (disch := first | omega | decide) only [go_sem, f1, f3, o1, opn_cond, hc, if_true, act_load_t ti3]
   rw [mwp_load_b1 (by simp only [go_sem, f1, f3, o1, opn_cond, hc, if_true]; rfl) (by rfl)]
   exact hK
  apply adraw_merge' (by exact want_of (d := 25) rfl (by simp only [go_sem, f1, f3, o1, opn_cond]; rfl))
  ·intro hc K hK
   simp (disch := first | omega | decide) only [go_sem, f1, f3, o1, opn_cond, hc, if_true, act_fieldAddr_t fo79_0]
   rw [mwp_fieldAddr_b (by simp (disch := first | omega | decide) only [go_sem, f1, f3, o1, opn_cond, hc, if_true]; rfl)]
   exact hK
  apply adraw_merge' (by exact want_of (d := 25) rfl (by simp only [go_sem, f1, f3, o1, opn_cond]; rfl))
  ·intro hc K hK
   simp (disch := first | omega | decide) only [go_sem, f1, f3, o1, opn_cond, hc, if_true, act_load_t ti3]
   rw [mwp_load_b1 (by simp (disch := first | omega | decide) only [go_sem, f1, f3, o1, opn_cond, hc, if_true]; rfl) (by rfl)]
   exact hK
  apply adraw_merge' (by exact want_of (d := 25) rfl (by simp only [go_sem, f1, f3, o1, opn_cond]; rfl))
  ·intro hc K hK
   simp (disch := first | omega | decide) only [go_sem, f1, f3, o1, opn_cond, hc, if_true]
   exact hK
  iterate 2 (apply adraw_step rfl; · (intro K hK; simp (disch := first | omega | decide) only [go_sem, f1, f3, o1]; exact hK))
  apply adraw_merge' (by exact want_of (d := 32) rfl (by simp only [go_sem, f1, f3, o1, opn_cond]; rfl))
  ·intro hc K hK
   simp (disch := first | omega | decide) only [go_sem, f1, f3, o1, opn_cond, hc, if_true, act_fieldAddr_t fo124_1]
   rw [mwp_fieldAddr_b (by simp only [go_sem, f1, f3, o1, opn_cond, hc, if_true]; rfl)]
   exact hK
  apply adraw_merge' (by exact want_of (d := 32) rfl (by simp only [go_sem, f1, f3, o1, opn_cond]; rfl))
  ·intro hc K hK
   simp (disch := first | omega | decide) only [go_sem, f1, f3, o1, opn_cond, hc, if_true, act_load_t ti3]
   rw [mwp_load_b1 (by simp only [go_sem, f1, f3, o1, opn_cond, hc, if_true]; rfl) (by rfl)]
   exact hK
  apply adraw_merge' (by exact want_of (d := 32) rfl (by simp only [go_sem, f1, f3, o1, opn_cond]; rfl))
  ·intro hc K hK
   simp (disch := first | omega | decide) only [go_sem, f1, f3, o1, opn_cond, hc, if_true]
   exact hK
  iterate 2 (apply adraw_step rfl; · (intro K hK; simp (disch := first | omega | decide) only [go_sem, f1, f3, o1]; exact hK))
  apply adraw_merge' (by exact want_of (d := 37) rfl (by simp only [go_sem, f1, f3, o1, opn_cond]; rfl))
  ·intro hc K hK
   simp (disch := first | omega | decide) only [go_sem, f1, f3, o1, opn_cond, hc, if_true, act_fieldAddr_t fo124_1]
   rw [mwp_fieldAddr_b (by simp only [go_sem, f1, f3, o1, opn_cond, hc, if_true]; rfl)]
   exact hK
  apply adraw_merge' (by exact want_of (d := 37) rfl (by simp only [go_sem, f1, f3, o1, opn_cond]; rfl))
  ·intro hc K hK
   simp (disch := first | omega | decide) only [go_sem, f1, f3, o1, opn_cond, hc, if_true, act_load_t ti3]
   rw [mwp_load_b1 (by simp only [go_sem, f1, f3, o1, opn_cond, hc, if_true]; rfl) (by rfl)]
   exact hK
  apply adraw_merge' (by exact want_of (d := 37) rfl (by simp only [go_sem, f1, f3, o1, opn_cond]; rfl))
  ·intro hc K hK
   simp (disch := first | omega | decide) only [go_sem, f1, f3, o1, opn_cond, hc, if_true]
   exact hK
  iterate 2 (apply adraw_step rfl; · (intro K hK; simp (disch := first | omega | decide) only [go_sem, f1, f3, o1]; exact hK))
  apply adraw_merge' (by exact want_of (d := 42) rfl (by simp only [go_sem, f1, f3, o1, opn_cond]; rfl))
  ·intro hc K hK
   simp (disch := first | omega | decide) only [go_sem, f1, f3, o1, opn_cond, hc, if_true]
   exact hK
  apply adraw_merge' (by exact want_of (d := 42) rfl (by simp only [go_sem, f1, f3, o1, opn_cond]; rfl))
  ·intro hc K hK
   simp (disch := first | omega | decide) only [go_sem, f1, f3, o1, opn_cond, hc, if_true]
   exact hK
  apply adraw_merge' (by exact want_of (d := 42) rfl (by simp only [go_sem, f1, f3, o1, opn_cond]; rfl))
  ·intro hc K hK
   simp (disch := first | omega | decide) only [go_sem, f1, f3, o1, opn_cond, hc, if_true]
   exact hK
  apply adraw_merge' (by exact want_of_cond (d := 45) rfl (by simp only [go_sem, f1, f3, o1, opn_cond]; rfl))
  ·intro hc K hK
   simp (disch := first | omega | decide) only [go_sem, f1, f3, o1, opn_cond, hc, if_true, act_fieldAddr_t fo79_2]
   rw [mwp_fieldAddr_b (by simp (disch := first | omega | decide) only [go_sem, f1, f3, o1, opn_cond, hc, if_true]; rfl)]
   exact hK
  apply adraw_merge' (by exact want_of_cond (d := 45) rfl (by simp only [go_sem, f1, f3, o1, opn_cond]; rfl))
  ·intro hc K hK
   simp (disch := first | omega | decide) only [go_sem, f1, f3, o1, opn_cond, hc, if_true, act_load_t ti77]
   rw [mwp_load_b1 (by simp (disch := first | omega | decide) only [go_sem, f1, f3, o1, opn_cond, hc, if_true]; rfl) (by rfl)]
   exact hK
  apply adraw_merge' (by exact want_of_cond (d := 45) rfl (by simp only [go_sem, f1, f3, o1, opn_cond]; rfl))
  ·intro hc K hK
   simp (disch := first | omega | decide) only [go_sem, f1, f3, o1, opn_cond, hc, if_true]
   exact hK
  apply adraw_merge' (by exact want_of_cond (d := 45) rfl (by simp only [go_sem, f1, f3, o1, opn_cond]; rfl))
  ·intro hc K hK
   have hc2 := hc
   simp only [beq_iff_eq, decide_eq_true_eq, decide_eq_false_iff_not, Bool.or_eq_true, Bool.and_eq_true, Bool.or_eq_false_iff, Bool.and_eq_false_iff] at hc2
   simp (disch := first | omega | decide) only [go_sem, f1, f3, o1, opn_cond, hc, if_true]
   exact hK
  apply adraw_merge' (by exact want_of_cond (d := 45) rfl (by simp only [go_sem, f1, f3, o1, opn_cond]; rfl))
  ·intro hc K hK
   have hc2 := hc
   simp only [beq_iff_eq, decide_eq_true_eq, decide_eq_false_iff_not, Bool.or_eq_true, Bool.and_eq_true, Bool.or_eq_false_iff, Bool.and_eq_false_iff] at hc2
   simp (disch := first | omega | decide) only [opn_cond, hc, if_true, raw_tmp, raw_int, upd_same, upd_ne, opn_v, intOf_v, idxL_some, f1, f3, o1, act_indexAddr_s u77 ti124]
   rw [mwp_aIndex_getD (by omega) (by omega)]
   exact hK
  apply adraw_merge' (by exact want_of_cond (d := 45) rfl (by simp only [go_sem, f1, f3, o1, opn_cond]; rfl))
  ·intro hc K hK
   simp (disch := first | omega | decide) only [go_sem, f1, f3, o1, opn_cond, hc, if_true, act_fieldAddr_t fo124_0]
   skip
   exact hK
  apply adraw_merge' (by exact want_of_cond (d := 45) rfl (by simp only [go_sem, f1, f3, o1, opn_cond]; rfl))
  ·intro hc K hK
   simp (disch := first | omega | decide) only [go_sem, f1, f3, o1, opn_cond, hc, if_true, act_load_t ti3]
   rw [mwp_load_i1 (by rfl)]
   exact hK
  apply adraw_merge' (by exact want_of_cond (d := 45) rfl (by simp only [go_sem, f1, f3, o1, opn_cond]; rfl))
  ·intro hc K hK
   simp (disch := first | omega | decide) only [go_sem, f1, f3, o1, opn_cond, hc, if_true, act_fieldAddr_t fo124_0]
   rw [mwp_fieldAddr_b (by simp only [go_sem, f1, f3, o1, opn_cond, hc, if_true]; rfl)]
   exact hK
  apply adraw_merge' (by exact want_of_cond (d := 45) rfl (by simp only [go_sem, f1, f3, o1, opn_cond]; rfl))
  ·intro hc K hK
   simp (disch := first | omega | decide) only [go_sem, f1, f3, o1, opn_cond, hc, if_true, act_load_t ti3]
   rw [mwp_load_b1 (by simp only [go_sem, f1, f3, o1, opn_cond, hc, if_true]; rfl) (by rfl)]
   exact hK
  apply adraw_merge' (by exact want_of_cond (d := 45) rfl (by simp only [go_sem, f1, f3, o1, opn_cond]; rfl))
  ·intro hc K hK
   simp (disch := first | omega | decide) only [go_sem, f1, f3, o1, opn_cond, hc, if_true]
   exact hK
  apply adraw_merge' (by exact want_of (d := 42) rfl (by simp only [go_sem, f1, f3, o1, opn_cond]; rfl))
  ·intro hc K hK
   simp (disch := first | omega | decide) only [go_sem, f1, f3, o1, opn_cond, hc, if_true]
   exact hK
  iterate 1 (apply adraw_step rfl; · (intro K hK; simp (disch := first | omega | decide) only [go_sem, f1, f3, o1]; exact hK))
  refine adraw_nil (by kernel_rfl) ?_
  apply AW.cond
  ·(simp only [go_sem, f1, f3, o1]; rfl)
  case ht =>
   intro hb
   try simp only [bo1, bo2, bo3, bo4, bo5, bo6] at hb
   have hbt57 := hb
   refine AW.sr (cfg := cfg) ?_
   iterate 1 (apply aops_step (by decide) rfl; · (intro K hK; simp (disch := first | omega | decide) only [go_sem, f1, f3, o1]; exact hK _))
   refine aops_nil ?_
   refine AW.ret ?_
   refine ⟨.inr rfl, ?_⟩
   refine leaves_tmp1 2 rfl ?_ (by exact hG)
   simp (disch := first | omega | decide) only [go_sem, f1, f3, o1]
   all_goals (have z : lsaOK ⟨o, q, nil, ls⟩ = false := (by simp only [lsaOK, mo0, links_drop hk, may_no hbt57]; simp); rw [z]; done)
  case hf =>
   intro hb
   try simp only [bo1, bo2, bo3, bo4, bo5, bo6] at hb
   have hbt57 := hb
   refine AW.skip ?_
   refine AW.region (cfg := cfg) ?_
   iterate 3 (apply aops_step (by decide) rfl; · (intro K hK; simp (disch := first | omega | decide) only [go_sem, f1, f3, o1]; exact hK _))
   refine aops_nil ?_
   refine ⟨_, _, rfl, ?_, ?_, ?_, ?_, (by exact hG)⟩ <;> try simp (disch := first | omega | decide) only [go_sem, f1, f3, o1]
   all_goals first | rfl | skip
   all_goals (rw [mo0, links_drop hk, may_is hbt57, Bool.true_and, lastOf_succ hk]; done)
 ·clear f0 hG
  rintro σ ⟨s, m, rfl, f1, o1, f3, mo0, hG⟩
  obtain ⟨g1, o1⟩ : ∃ g, m.objs (.tmp 1 0) = (g, .box [.v (i64 o), .v (i64 q), .v (.sl 2 nil (ls.map linkA))]) := ⟨_, Prod.ext rfl o1⟩
  rw [o1] at f1
  refine AW.seq ?_
  refine AW.sr (cfg := cfg) ?_
  iterate 1 (apply aops_step (by decide) rfl; · (intro K hK; simp (disch := first | omega | decide) only [go_sem, f1, f3, o1]; exact hK _))
  refine aops_fl (by decide) (by decide) fo79_2 ti77 (by simp (disch := first | omega | decide) only [go_sem, f1, f3, o1]; rfl) (by simp (disch := first | omega | decide) only [go_sem, f1, f3, o1]; rfl) (by rfl) ?_
  iterate 2 (apply aops_step (by decide) rfl; · (intro K hK; simp (disch := first | omega | decide) only [go_sem, f1, f3, o1, List.map, List.length_map, aops_len u77]; exact hK _))
  refine aops_nil ?_
  apply AW.cond
  ·(simp only [go_sem, f1, f3, o1]; rfl)
  case ht => intro hb; (simp at hb; done)
  case hf =>
  intro hb
  have hbt9 := hb
  refine AW.exit ?_
  refine AW.sr (cfg := cfg) ?_
  refine aops_fl (by decide) (by decide) fo79_0 ti3 (by simp (disch := first | omega | decide) only [go_sem, f1, f3, o1]; rfl) (by simp (disch := first | omega | decide) only [go_sem, f1, f3, o1]; rfl) (by rfl) ?_
  iterate 2 (apply aops_step (by decide) rfl; · (intro K hK; simp (disch := first | omega | decide) only [go_sem, f1, f3, o1]; exact hK _))
  refine aops_flm (dg := 61) (by decide) (by decide) (by decide) fo79_0 ti3 rfl (by simp (disch := first | omega | decide) only [go_sem, f1, f3, o1]; rfl) (by simp (disch := first | omega | decide) only [go_sem, f1, f3, o1]; rfl) (by simp (disch := first | omega | decide) only [go_sem, f1, f3, o1]; rfl) (by rfl) ?_
  apply aops_merge' (by decide) (by exact want_of (d := 61) rfl (by simp (disch := first | omega | decide) only [go_sem, f1, f3, o1, opn_cond]; rfl))
  ·intro hc K hK
   simp (disch := first | omega | decide) only [go_sem, f1, f3, o1, opn_cond, hc, if_true]
   exact hK _
  iterate 2 (apply aops_step (by decide) rfl; · (intro K hK; simp (disch := first | omega | decide) only [go_sem, f1, f3, o1]; exact hK _))
  refine aops_flm (dg := 66) (by decide) (by decide) (by decide) fo79_1 ti3 rfl (by simp (disch := first | omega | decide) only [go_sem, f1, f3, o1]; rfl) (by simp (disch := first | omega | decide) only [go_sem, f1, f3, o1]; rfl) (by simp (disch := first | omega | decide) only [go_sem, f1, f3, o1]; rfl) (by rfl) ?_
  apply aops_merge' (by decide) (by exact want_of (d := 66) rfl (by simp (disch := first | omega | decide) only [go_sem, f1, f3, o1, opn_cond]; rfl))
  ·intro hc K hK
   simp (disch := first | omega | decide) only [go_sem, f1, f3, o1, opn_cond, hc, if_true]
   exact hK _
  iterate 2 (apply aops_step (by decide) rfl; · (intro K hK; simp (disch := first | omega | decide) only [go_sem, f1, f3, o1]; exact hK _))
  refine aops_flm (dg := 71) (by decide) (by decide) (by decide) fo79_1 ti3 rfl (by simp (disch := first | omega | decide) only [go_sem, f1, f3, o1]; rfl) (by simp (disch := first | omega | decide) only [go_sem, f1, f3, o1]; rfl) (by simp (disch := first | omega | decide) only [go_sem, f1, f3, o1]; rfl) (by rfl) ?_
  apply aops_merge' (by decide) (by exact want_of (d := 71) rfl (by simp (disch := first | omega | decide) only [go_sem, f1, f3, o1, opn_cond]; rfl))
  ·intro hc K hK
   simp (disch := first | omega | decide) only [go_sem, f1, f3, o1, opn_cond, hc, if_true]
   exact hK _
  iterate 2 (apply aops_step (by decide) rfl; · (intro K hK; simp (disch := first | omega | decide) only [go_sem, f1, f3, o1]; exact hK _))
  refine aops_flm (dg := 76) (by decide) (by decide) (by decide) fo79_2 ti77 rfl (by simp (disch := first | omega | decide) only [go_sem, f1, f3, o1]; rfl) (by simp (disch := first | omega | decide) only [go_sem, f1, f3, o1]; rfl) (by simp (disch := first | omega | decide) only [go_sem, f1, f3, o1]; rfl) (by rfl) ?_
  apply aops_merge' (by decide) (by exact want_of (d := 76) rfl (by simp (disch := first | omega | decide) only [go_sem, f1, f3, o1, opn_cond]; rfl))
  ·intro hc K hK
   simp (disch := first | omega | decide) only [go_sem, f1, f3, o1, opn_cond, hc, if_true, List.map, List.length_map, aops_len u77]
   exact hK _
  apply aops_merge' (by decide) (by exact want_of (d := 76) rfl (by simp (disch := first | omega | decide) only [go_sem, f1, f3, o1, opn_cond]; rfl))
  ·intro hc K hK
   simp (disch := first | omega | decide) only [go_sem, f1, f3, o1, opn_cond, hc, if_true]
   exact hK _
  iterate 2 (apply aops_step (by decide) rfl; · (intro K hK; simp (disch := first | omega | decide) only [go_sem, f1, f3, o1]; exact hK _))
  refine aops_nil ?_
  refine AW.ret ?_
  refine ⟨.inr rfl, ?_⟩
  refine leaves_tmp1 2 rfl ?_ (by exact hG)
  simp (disch := first | omega | decide) only [go_sem, f1, f3, o1]
  all_goals (have z : linksOK o 0 ls = true := mo0.trans links_end; refine congrArg (fun b => LV.v (AV.b b)) ?_; refine may_end z ?_; simp only [Bool.and_eq_true, decide_eq_true_eq]; omega)
theorem good_Put (nil : Bool) (l : List (BitVec 8)) (o q : Int) (nl : Bool) (ls : List LinkS) (hl : l.length ≤ 140737488350000) (hz : nil = true → l = []) (hls : ls.length ≤ 9223372036854775807) : Good Try.prog 41 [(.sl 1 nil (bsl l), false), (.agg [i64 o, i64 q, .sl 2 nl (ls.map linkA)], false)] [] [(.sl 1 (nil && !lsaOK ⟨o, q, nl, ls⟩) (bsl (l ++ lsaS ⟨o, q, nl, ls⟩)), true)] [] := by
 refine good_of_body3 47 Try.func41 rfl rfl rfl (by simp) ?_
 intro s m ha hr hv hG
 have f0 : s 0 = .v (.sl 1 nil (bsl l)) := ha 0 _ rfl
 have f1 : s 1 = .v (.agg [i64 o, i64 q, .sl 2 nl (ls.map linkA)]) := ha 1 _ rfl
 clear ha
 refine AW.sr (cfg := cfg4) ?_
 apply aops_step (by decide) rfl
 ·intro K hK
  simp (disch := first | omega | decide) only [go_sem, f0, f1, act_box_t ti79, List.map, numS1, numS4, numS8, nm1, nm4, nm8, Bool.false_and, List.append_assoc]
  rw [settleL_vish _ _ (by rfl)]
  simp (disch := first | omega | decide) only [go_sem, f0, f1, cellsL, List.map, List.length_cons, List.length_nil, Nat.reduceAdd, if_true, numS1, numS4, numS8, nm1, nm4, nm8, Bool.false_and, List.append_assoc]
  exact hK _
 iterate 1 (apply aops_step (by decide) rfl; · (intro K hK; simp (disch := first | omega | decide) only [go_sem, f0, f1, sz22, numS1, numS4, numS8, nm1, nm4, nm8, Bool.false_and, List.append_assoc]; exact hK _))
 refine aops_nil ?_
 refine AW.seq ?_
 refine AW.sr (cfg := cfg4) ?_
 apply aops_step (by decide) rfl
 ·intro K hK
  simp (disch := first | omega | decide) only [go_sem, f0, f1, act_load_t ti79, List.map, numS1, numS4, numS8, nm1, nm4, nm8, Bool.false_and, List.append_assoc]
  rw [mwp_load_bs (by simp (disch := first | omega | decide) only [go_sem, f0, f1, numS1, numS4, numS8, nm1, nm4, nm8, Bool.false_and, List.append_assoc]; rfl) (by simp [setAt])]
  exact hK _
 apply aops_step (by decide) rfl
 ·intro K hK
  simp (disch := first | omega | decide) only [go_sem, f0, f1, act_call, List.map, numS1, numS4, numS8, nm1, nm4, nm8, Bool.false_and, List.append_assoc]
  apply mwp_call_s rfl rfl rfl
  ·intro Q hQ
   (simp (disch := first | omega | decide) only [go_sem, f0, f1, peekL, reifyL_nil, reifyL_cons, reify_v, numS1, numS4, numS8, nm1, nm4, nm8, Bool.false_and, List.append_assoc]; (exact hQ))
  ·exact good_Check _ _ _ _ (by omega)
  ·simp [-List.map_take, -List.map_drop, -List.map_append, -List.map_replicate, -List.reduceReplicate, noPtrL, noPtr, noPtrL_bsl, noPtrL_map, sub]
  ·rfl
  ·exact hK _
 iterate 1 (apply aops_step (by decide) rfl; · (intro K hK; simp (disch := first | omega | decide) only [go_sem, f0, f1, numS1, numS4, numS8, nm1, nm4, nm8, Bool.false_and, List.append_assoc]; exact hK _))
 refine aops_nil ?_
 apply AW.cond
 ·(simp only [go_sem, f0, f1, numS1, numS4, numS8, nm1, nm4, nm8, Bool.false_and, List.append_assoc]; rfl)
 case ht =>
  intro hb
  try simp only [bo1, bo2, bo3, bo4, bo5, bo6] at hb
  have hbt9 := hb
  refine AW.sr (cfg := cfg4) ?_
  iterate 1 (apply aops_step (by decide) rfl; · (intro K hK; simp (disch := first | omega | decide) only [go_sem, f0, f1, numS1, numS4, numS8, nm1, nm4, nm8, Bool.false_and, List.append_assoc]; exact hK _))
  apply aops_step (by decide) rfl
  ·intro K hK
   simp (disch := first | omega | decide) only [go_sem, f0, f1, act_call, List.map, numS1, numS4, numS8, nm1, nm4, nm8, Bool.false_and, List.append_assoc]
   apply mwp_call_r rfl rfl rfl
   ·intro Q hQ
    (simp (disch := first | omega | decide) only [go_sem, f0, f1, peekL, reifyL_nil, reifyL_cons, reify_v, numS1, numS4, numS8, nm1, nm4, nm8, Bool.false_and, List.append_assoc]; (exact hQ))
   ·exact good_Clone _ _ (by omega) hz
   ·simp [-List.map_take, -List.map_drop, -List.map_append, -List.map_replicate, -List.reduceReplicate, noPtrL, noPtr, noPtrL_bsl, noPtrL_map, sub]
   ·rw [resOf_own1 (by (simp (disch := decide) only [mset_ne, hr]; done))]
    exact hK _
  apply aops_step (by decide) rfl
  ·intro K hK
   simp (disch := first | omega | decide) only [go_sem, f0, f1, numS1, numS4, numS8, nm1, nm4, nm8, Bool.false_and, List.append_assoc]
   rw [asg_tmp (by simp (disch := first | omega | decide) only [go_sem, f0, f1, numS1, numS4, numS8, nm1, nm4, nm8, Bool.false_and, List.append_assoc]; rfl)]
   exact hK _
  refine aops_nil ?_
  refine AW.ret ?_
  refine ⟨.inr rfl, ?_⟩
  all_goals (have z : lsaOK ⟨o, q, nl, ls⟩ = false := (lsaE_ne (by simpa using hbt9)); rw [z, lsaS, z, Bool.not_false, Bool.and_true, if_neg (by decide), List.append_nil]; refine leavesN (leaves_own1 4 rfl (by simp (disch := first | omega | decide) only [go_sem, f0, f1, numS1, numS4, numS8, nm1, nm4, nm8, Bool.false_and, List.append_assoc] <;> rfl) (by simp (disch := first | omega | decide) only [go_sem, f0, f1, numS1, numS4, numS8, nm1, nm4, nm8, Bool.false_and, List.append_assoc] <;> rfl) (by decide) (by simp [sub, List.take_of_length_le]) (by exact hG)))
 case hf =>
  intro hb
  try simp only [bo1, bo2, bo3, bo4, bo5, bo6] at hb
  have hbt9 := hb
  refine AW.skip ?_
  refine AW.seq ?_
  have hok : lsaOK ⟨o, q, nl, ls⟩ = true := lsaE_eq (by simpa using hbt9)
  obtain ⟨b1, b2, b3, b4⟩ := lsa_bd hok
  dsimp only at b1 b2 b3 b4
  refine AW.region (cfg := cfg4) ?_
  iterate 1 (apply aops_step (by decide) rfl; · (intro K hK; simp (disch := first | omega | decide) only [go_sem, f0, f1, numS1, numS4, numS8, nm1, nm4, nm8, Bool.false_and, List.append_assoc]; exact hK _))
  refine aops_fl (by decide) (by decide) fo79_0 ti3 (by simp (disch := first | omega | decide) only [go_sem, f0, f1, numS1, numS4, numS8, nm1, nm4, nm8, Bool.false_and, List.append_assoc]; rfl) (by simp (disch := first | omega | decide) only [go_sem, f0, f1, numS1, numS4, numS8, nm1, nm4, nm8, Bool.false_and, List.append_assoc]; rfl) (by rfl) ?_
  iterate 1 (apply aops_step (by decide) rfl; · (intro K hK; simp (disch := first | omega | decide) only [go_sem, f0, f1, act_convI u3 u71, numS1, numS4, numS8, nm1, nm4, nm8, Bool.false_and, List.append_assoc]; exact hK _))
  apply aops_step (by decide) rfl
  ·intro K hK
   simp (disch := first | omega | decide) only [go_sem, f0, f1, act_call, List.map, numS1, numS4, numS8, nm1, nm4, nm8, Bool.false_and, List.append_assoc]
   apply mwp_call_r rfl rfl rfl
   ·intro Q hQ
    (simp (disch := first | omega | decide) only [go_sem, f0, f1, peekL, reifyL_nil, reifyL_cons, reify_v, numS1, numS4, numS8, nm1, nm4, nm8, Bool.false_and, List.append_assoc]; (exact hQ))
   ·exact good_Num _ _ (by omega) (by exact hz) _ _ (by omega)
   ·simp [-List.map_take, -List.map_drop, -List.map_append, -List.map_replicate, -List.reduceReplicate, noPtrL, noPtr, noPtrL_bsl, noPtrL_map, sub]
   ·rw [resOf_own1 (by (simp (disch := decide) only [mset_ne, hr]; done))]
    exact hK _
  apply aops_step (by decide) rfl
  ·intro K hK
   simp (disch := first | omega | decide) only [go_sem, f0, f1, numS1, numS4, numS8, nm1, nm4, nm8, Bool.false_and, List.append_assoc]
   rw [asg_tmp (by simp (disch := first | omega | decide) only [go_sem, f0, f1, numS1, numS4, numS8, nm1, nm4, nm8, Bool.false_and, List.append_assoc]; rfl)]
   exact hK _
  refine aops_nil ?_
  refine AW.sr (cfg := cfg4) ?_
  iterate 1 (apply aops_step (by decide) rfl; · (intro K hK; simp (disch := first | omega | decide) only [go_sem, f0, f1, numS1, numS4, numS8, nm1, nm4, nm8, Bool.false_and, List.append_assoc]; exact hK _))
  refine aops_fl (by decide) (by decide) fo79_1 ti3 (by simp (disch := first | omega | decide) only [go_sem, f0, f1, numS1, numS4, numS8, nm1, nm4, nm8, Bool.false_and, List.append_assoc]; rfl) (by simp (disch := first | omega | decide) only [go_sem, f0, f1, numS1, numS4, numS8, nm1, nm4, nm8, Bool.false_and, List.append_assoc]; rfl) (by rfl) ?_
  iterate 1 (apply aops_step (by decide) rfl; · (intro K hK; simp (disch := first | omega | decide) only [go_sem, f0, f1, act_convI u3 u71, numS1, numS4, numS8, nm1, nm4, nm8, Bool.false_and, List.append_assoc]; exact hK _))
  apply aops_step (by decide) rfl
  ·intro K hK
   simp (disch := first | omega | decide) only [go_sem, f0, f1, act_call, List.map, numS1, numS4, numS8, nm1, nm4, nm8, Bool.false_and, List.append_assoc]
   apply mwp_call_r rfl rfl rfl
   ·intro Q hQ
    (simp (disch := first | omega | decide) only [go_sem, f0, f1, peekL, reifyL_nil, reifyL_cons, reify_v, numS1, numS4, numS8, nm1, nm4, nm8, Bool.false_and, List.append_assoc]; ((((rw [mwp_reify_own (by simp (disch := first | omega | decide) only [go_sem, f0, f1, peekL, reifyL_nil, reifyL_cons, reify_v, numS1, numS4, numS8, nm1, nm4, nm8, Bool.false_and, List.append_assoc]; rfl)]); (try rw [sub_full (by rfl)])); exact hQ)))
   ·exact good_Num _ _ (by (simp [numR_length, linksB_len]; omega)) (by simp) _ _ (by omega)
   ·simp [-List.map_take, -List.map_drop, -List.map_append, -List.map_replicate, -List.reduceReplicate, noPtrL, noPtr, noPtrL_bsl, noPtrL_map, sub]
   ·rw [resOf_own1 (by (simp (disch := decide) only [mset_ne, hr]; done))]
    exact hK _
  apply aops_step (by decide) rfl
  ·intro K hK
   simp (disch := first | omega | decide) only [go_sem, f0, f1, numS1, numS4, numS8, nm1, nm4, nm8, Bool.false_and, List.append_assoc]
   rw [asg_tmp (by simp (disch := first | omega | decide) only [go_sem, f0, f1, numS1, numS4, numS8, nm1, nm4, nm8, Bool.false_and, List.append_assoc]; rfl)]
   exact hK _
  refine aops_nil ?_
  refine AW.sr (cfg := cfg4) ?_
  iterate 1 (apply aops_step (by decide) rfl; · (intro K hK; simp (disch := first | omega | decide) only [go_sem, f0, f1, numS1, numS4, numS8, nm1, nm4, nm8, Bool.false_and, List.append_assoc]; exact hK _))
  refine aops_fl (by decide) (by decide) fo79_2 ti77 (by simp (disch := first | omega | decide) only [go_sem, f0, f1, numS1, numS4, numS8, nm1, nm4, nm8, Bool.false_and, List.append_assoc]; rfl) (by simp (disch := first | omega | decide) only [go_sem, f0, f1, numS1, numS4, numS8, nm1, nm4, nm8, Bool.false_and, List.append_assoc]; rfl) (by rfl) ?_
  iterate 2 (apply aops_step (by decide) rfl; · (intro K hK; simp (disch := first | omega | decide) only [go_sem, f0, f1, List.map, List.length_map, aops_len u77, act_convI u3 u71, numS1, numS4, numS8, nm1, nm4, nm8, Bool.false_and, List.append_assoc]; exact hK _))
  apply aops_step (by decide) rfl
  ·intro K hK
   simp (disch := first | omega | decide) only [go_sem, f0, f1, act_call, List.map, numS1, numS4, numS8, nm1, nm4, nm8, Bool.false_and, List.append_assoc]
   apply mwp_call_r rfl rfl rfl
   ·intro Q hQ
    (simp (disch := first | omega | decide) only [go_sem, f0, f1, peekL, reifyL_nil, reifyL_cons, reify_v, numS1, numS4, numS8, nm1, nm4, nm8, Bool.false_and, List.append_assoc]; ((((rw [mwp_reify_own (by simp (disch := first | omega | decide) only [go_sem, f0, f1, peekL, reifyL_nil, reifyL_cons, reify_v, numS1, numS4, numS8, nm1, nm4, nm8, Bool.false_and, List.append_assoc]; rfl)]); (try rw [sub_full (by rfl)])); exact hQ)))
   ·exact good_Num _ _ (by (simp [numR_length, linksB_len]; omega)) (by simp) _ _ (by omega)
   ·simp [-List.map_take, -List.map_drop, -List.map_append, -List.map_replicate, -List.reduceReplicate, noPtrL, noPtr, noPtrL_bsl, noPtrL_map, sub]
   ·rw [resOf_own1 (by (simp (disch := decide) only [mset_ne, hr]; done))]
    exact hK _
  apply aops_step (by decide) rfl
  ·intro K hK
   simp (disch := first | omega | decide) only [go_sem, f0, f1, numS1, numS4, numS8, nm1, nm4, nm8, Bool.false_and, List.append_assoc]
   rw [asg_tmp (by simp (disch := first | omega | decide) only [go_sem, f0, f1, numS1, numS4, numS8, nm1, nm4, nm8, Bool.false_and, List.append_assoc]; rfl)]
   exact hK _
  refine aops_nil ?_
  refine AW.seq ?_
  refine AW.sr (cfg := cfg4) ?_
  refine aops_fl (by decide) (by decide) fo79_2 ti77 (by simp (disch := first | omega | decide) only [go_sem, f0, f1, numS1, numS4, numS8, nm1, nm4, nm8, Bool.false_and, List.append_assoc]; rfl) (by simp (disch := first | omega | decide) only [go_sem, f0, f1, numS1, numS4, numS8, nm1, nm4, nm8, Bool.false_and, List.append_assoc]; rfl) (by rfl) ?_
  iterate 2 (apply aops_step (by decide) rfl; · (intro K hK; simp (disch := first | omega | decide) only [go_sem, f0, f1, List.map, List.length_map, aops_len u77, numS1, numS4, numS8, nm1, nm4, nm8, Bool.false_and, List.append_assoc]; exact hK _))
  refine aops_nil ?_
  refine AW.block ?_
  refine AW.forN (fun k σ => ∃ s m, σ = ⟨47, s, m⟩ ∧ s 0 = .own (.var 0) (m.objs (.var 0)).1 0 (l.length + 10 + 5 * k) ∧ (m.objs (.var 0)).2 = .arr false 1 (bsl (l ++ (numR o 1 ++ (numR q 8 ++ (numR (ls.length : Int) 1 ++ linksB (ls.take k)))))) ∧ s 29 = .v (.sl 2 nl (ls.map linkA)) ∧ s 30 = .v (i64 (ls.length : Int)) ∧ s 31 = .v (i64 (k : Int)) ∧ (∀ i, (m.objs (.res i)).2 = .dead) ∧ m.G = []) (ls.length) ?_ ?_ ?_
  ·refine ⟨_, _, rfl, ?_, ?_, ?_, ?_, ?_, (by intro i; simp [Mem.set, hr]), (by exact hG)⟩ <;> try simp (disch := first | omega | decide) only [go_sem, f0, f1, numS1, numS4, numS8, nm1, nm4, nm8, Bool.false_and, List.append_assoc]
   all_goals first | rfl | (simp [linksB, numR_length]; done)
  ·clear f0 f1 hr hG
   rintro k σ hk ⟨s, m, rfl, f0, o0, f29, f30, f31, hr, hG⟩
   obtain ⟨g0, o0⟩ : ∃ g, m.objs (.var 0) = (g, .arr false 1 (bsl (l ++ (numR o 1 ++ (numR q 8 ++ (numR (ls.length : Int) 1 ++ linksB (ls.take k))))))) := ⟨_, Prod.ext rfl o0⟩
   rw [o0] at f0
   refine AW.sr (cfg := cfg4) ?_
   iterate 1 (apply aops_step (by decide) rfl; · (intro K hK; simp (disch := first | omega | decide) only [go_sem, f0, f29, f30, f31, o0, numS1, numS4, numS8, nm1, nm4, nm8, Bool.false_and, List.append_assoc]; exact hK _))
   refine aops_nil ?_
   refine AW.seq ?_
   apply AW.cond
   ·(simp only [go_sem, f0, f29, f30, f31, o0, numS1, numS4, numS8, nm1, nm4, nm8, Bool.false_and, List.append_assoc]; rfl)
   case hf => intro hb; (simp at hb; omega)
   case ht =>
   intro hb
   have hbt32 := hb
   refine AW.skip ?_
   refine AW.seq ?_
   refine AW.block ?_
   refine AW.seq ?_
   obtain ⟨c1, c2⟩ := link_bd b4 hk
   refine AW.region (cfg := cfg4) ?_
   apply aops_step (by decide) rfl
   ·intro K hK
    simp (disch := first | omega | decide) only [go_sem, f0, f29, f30, f31, o0, act_indexAddr_s u77 ti124, List.map, numS1, numS4, numS8, nm1, nm4, nm8, Bool.false_and, List.append_assoc]
    skip
    exact hK _
   apply aops_step (by decide) rfl
   ·intro K hK
    simp (disch := first | omega | decide) only [go_sem, f0, f29, f30, f31, o0, act_load_t ti124, List.map, numS1, numS4, numS8, nm1, nm4, nm8, Bool.false_and, List.append_assoc]
    rw [mwp_load_is (by simp)]
    exact hK _
   apply aops_step (by decide) rfl
   ·intro K hK
    simp (disch := first | omega | decide) only [go_sem, f0, f29, f30, f31, o0, act_alloc_t ti124, List.map, numS1, numS4, numS8, nm1, nm4, nm8, Bool.false_and, List.append_assoc]
    exact hK _
   apply aops_step0 rfl
   ·intro K hK
    simp (disch := first | omega | decide) only [go_sem, f0, f29, f30, f31, o0, act_store_t ti124, List.map, numS1, numS4, numS8, nm1, nm4, nm8, Bool.false_and, List.append_assoc]
    rw [mwp_store_c (by simp (disch := first | omega | decide) only [go_sem, f0, f29, f30, f31, o0, numS1, numS4, numS8, nm1, nm4, nm8, Bool.false_and, List.append_assoc]; rfl) (by rfl) (by rfl) (by rfl) (by simp)]
    try simp only [setAt, cellsL, cellsOf_agg, cellsOf_base, List.map_cons, List.map_nil, List.set_cons_zero, List.set_cons_succ, Nat.reduceAdd, Nat.zero_add, hG]
    exact hK _
   refine aops_nil ?_
   refine AW.seq ?_
   obtain ⟨c1, c2⟩ := link_bd b4 hk
   refine AW.region (cfg := cfg4) ?_
   iterate 1 (apply aops_step (by decide) rfl; · (intro K hK; simp (disch := first | omega | decide) only [go_sem, f0, f29, f30, f31, o0, numS1, numS4, numS8, nm1, nm4, nm8, Bool.false_and, List.append_assoc]; exact hK _))
   refine aops_fl (by decide) (by decide) fo124_0 ti3 (by simp only [go_sem, f0, f29, f30, f31, o0, numS1, numS4, numS8, nm1, nm4, nm8, Bool.false_and, List.append_assoc]; rfl) (by simp only [go_sem, f0, f29, f30, f31, o0, numS1, numS4, numS8, nm1, nm4, nm8, Bool.false_and, List.append_assoc]; rfl) (by rfl) ?_
   iterate 1 (apply aops_step (by decide) rfl; · (intro K hK; simp (disch := first | omega | decide) only [go_sem, f0, f29, f30, f31, o0, act_convI u3 u71, numS1, numS4, numS8, nm1, nm4, nm8, Bool.false_and, List.append_assoc]; exact hK _))
   apply aops_step (by decide) rfl
   ·intro K hK
    simp (disch := first | omega | decide) only [go_sem, f0, f29, f30, f31, o0, act_call, List.map, numS1, numS4, numS8, nm1, nm4, nm8, Bool.false_and, List.append_assoc]
    apply mwp_call_r rfl rfl rfl
    ·intro Q hQ
     (simp (disch := first | omega | decide) only [go_sem, f0, f29, f30, f31, o0, peekL, reifyL_nil, reifyL_cons, reify_v, numS1, numS4, numS8, nm1, nm4, nm8, Bool.false_and, List.append_assoc]; ((((rw [mwp_reify_own (by simp (disch := first | omega | decide) only [go_sem, f0, f29, f30, f31, o0, peekL, reifyL_nil, reifyL_cons, reify_v, numS1, numS4, numS8, nm1, nm4, nm8, Bool.false_and, List.append_assoc]; rfl)]); (try rw [sub_full (by (simp [numR_length, linksB_len]; omega))])); exact hQ)))
    ·exact good_Num _ _ (by (simp [numR_length, linksB_len]; omega)) (by simp) _ _ (by omega)
    ·simp [-List.map_take, -List.map_drop, -List.map_append, -List.map_replicate, -List.reduceReplicate, noPtrL, noPtr, noPtrL_bsl, noPtrL_map, sub]
    ·rw [resOf_own1 (by (simp (disch := decide) only [mset_ne, hr]; done))]
     exact hK _
   apply aops_step (by decide) rfl
   ·intro K hK
    simp (disch := first | omega | decide) only [go_sem, f0, f29, f30, f31, o0, numS1, numS4, numS8, nm1, nm4, nm8, Bool.false_and, List.append_assoc]
    rw [asg_tmp (by simp (disch := first | omega | decide) only [go_sem, f0, f29, f30, f31, o0, numS1, numS4, numS8, nm1, nm4, nm8, Bool.false_and, List.append_assoc]; rfl)]
    exact hK _
   refine aops_nil ?_
   refine AW.region (cfg := cfg4) ?_
   iterate 1 (apply aops_step (by decide) rfl; · (intro K hK; simp (disch := first | omega | decide) only [go_sem, f0, f29, f30, f31, o0, numS1, numS4, numS8, nm1, nm4, nm8, Bool.false_and, List.append_assoc]; exact hK _))
   refine aops_fl (by decide) (by decide) fo124_1 ti3 (by simp (disch := first | omega | decide) only [go_sem, f0, f29, f30, f31, o0, numS1, numS4, numS8, nm1, nm4, nm8, Bool.false_and, List.append_assoc]; rfl) (by simp (disch := first | omega | decide) only [go_sem, f0, f29, f30, f31, o0, numS1, numS4, numS8, nm1, nm4, nm8, Bool.false_and, List.append_assoc]; rfl) (by rfl) ?_
   iterate 1 (apply aops_step (by decide) rfl; · (intro K hK; simp (disch := first | omega | decide) only [go_sem, f0, f29, f30, f31, o0, act_convI u3 u71, numS1, numS4, numS8, nm1, nm4, nm8, Bool.false_and, List.append_assoc]; exact hK _))
   apply aops_step (by decide) rfl
   ·intro K hK
    simp (disch := first | omega | decide) only [go_sem, f0, f29, f30, f31, o0, act_call, List.map, numS1, numS4, numS8, nm1, nm4, nm8, Bool.false_and, List.append_assoc]
    apply mwp_call_r rfl rfl rfl
    ·intro Q hQ
     (simp (disch := first | omega | decide) only [go_sem, f0, f29, f30, f31, o0, peekL, reifyL_nil, reifyL_cons, reify_v, numS1, numS4, numS8, nm1, nm4, nm8, Bool.false_and, List.append_assoc]; ((((rw [mwp_reify_own (by simp (disch := first | omega | decide) only [go_sem, f0, f29, f30, f31, o0, peekL, reifyL_nil, reifyL_cons, reify_v, numS1, numS4, numS8, nm1, nm4, nm8, Bool.false_and, List.append_assoc]; rfl)]); (try rw [sub_full (by rfl)])); exact hQ)))
    ·exact good_Num _ _ (by (simp [numR_length, linksB_len]; omega)) (by simp) _ _ (by omega)
    ·simp [-List.map_take, -List.map_drop, -List.map_append, -List.map_replicate, -List.reduceReplicate, noPtrL, noPtr, noPtrL_bsl, noPtrL_map, sub]
    ·rw [resOf_own1 (by (simp (disch := decide) only [mset_ne, hr]; done))]
     exact hK _
   apply aops_step (by decide) rfl
   ·intro K hK
    simp (disch := first | omega | decide) only [go_sem, f0, f29, f30, f31, o0, numS1, numS4, numS8, nm1, nm4, nm8, Bool.false_and, List.append_assoc]
    rw [asg_tmp (by simp (disch := first | omega | decide) only [go_sem, f0, f29, f30, f31, o0, numS1, numS4, numS8, nm1, nm4, nm8, Bool.false_and, List.append_assoc]; rfl)]
    exact hK _
   refine aops_nil ?_
   refine AW.region (cfg := cfg4) ?_
   iterate 2 (apply aops_step (by decide) rfl; · (intro K hK; simp (disch := first | omega | decide) only [go_sem, f0, f29, f30, f31, o0, numS1, numS4, numS8, nm1, nm4, nm8, Bool.false_and, List.append_assoc]; exact hK _))
   refine aops_nil ?_
   refine ⟨_, _, rfl, ?_, ?_, ?_, ?_, ?_, (by intro i; simp [Mem.set, hr]), (by exact hG)⟩ <;> try simp (disch := first | omega | decide) only [go_sem, f0, f29, f30, f31, o0, numS1, numS4, numS8, nm1, nm4, nm8, Bool.false_and, List.append_assoc]
   all_goals first | rfl | (simp [linksB_len, numR_length]; omega) | (rw [linksB_take hk]; simp [linkB]; done)
  ·clear f0 f1 hr hG
   rintro σ ⟨s, m, rfl, f0, o0, f29, f30, f31, hr, hG⟩
   obtain ⟨g0, o0⟩ : ∃ g, m.objs (.var 0) = (g, .arr false 1 (bsl (l ++ (numR o 1 ++ (numR q 8 ++ (numR (ls.length : Int) 1 ++ linksB (ls.take ls.length))))))) := ⟨_, Prod.ext rfl o0⟩
   rw [o0] at f0
   refine AW.sr (cfg := cfg4) ?_
   iterate 1 (apply aops_step (by decide) rfl; · (intro K hK; simp (disch := first | omega | decide) only [go_sem, f0, f29, f30, f31, o0, numS1, numS4, numS8, nm1, nm4, nm8, Bool.false_and, List.append_assoc]; exact hK _))
   refine aops_nil ?_
   refine AW.seq ?_
   apply AW.cond
   ·(simp only [go_sem, f0, f29, f30, f31, o0, numS1, numS4, numS8, nm1, nm4, nm8, Bool.false_and, List.append_assoc]; rfl)
   case ht => intro hb; (simp at hb; done)
   case hf =>
   intro hb
   have hbt32 := hb
   refine AW.exit ?_
   refine AW.sr (cfg := cfg4) ?_
   iterate 1 (apply aops_step (by decide) rfl; · (intro K hK; simp (disch := first | omega | decide) only [go_sem, f0, f29, f30, f31, o0, numS1, numS4, numS8, nm1, nm4, nm8, Bool.false_and, List.append_assoc]; exact hK _))
   apply aops_step (by decide) rfl
   ·intro K hK
    simp (disch := first | omega | decide) only [go_sem, f0, f29, f30, f31, o0, numS1, numS4, numS8, nm1, nm4, nm8, Bool.false_and, List.append_assoc]
    rw [asg_mv (by rfl) (by decide) (by simp (disch := first | omega | decide) only [go_sem, f0, f29, f30, f31, o0, numS1, numS4, numS8, nm1, nm4, nm8, Bool.false_and, List.append_assoc] <;> rfl)]
    exact hK _
   refine aops_nil ?_
   refine AW.ret ?_
   refine ⟨.inr rfl, ?_⟩
   all_goals (rw [hok, lsaS, hok, Bool.not_true, Bool.and_false, if_pos rfl]; refine leavesN (leaves_own1 4 rfl (by simp (disch := first | omega | decide) only [go_sem, f0, f29, f30, f31, o0, numS1, numS4, numS8, nm1, nm4, nm8, Bool.false_and, List.append_assoc] <;> rfl) (by simp (disch := first | omega | decide) only [go_sem, f0, f29, f30, f31, o0, numS1, numS4, numS8, nm1, nm4, nm8, Bool.false_and, List.append_assoc] <;> rfl) (by decide) (by rw [sub_full (by simp [numR_length, linksB_len]; omega)]; simp only [List.take_length, lsaB]) (by exact hG)))
theorem good_refPut (o q : Int) (nl : Bool) (ls : List LinkS) (hok : lsaOK ⟨o, q, nl, ls⟩ = true) : Good Try.prog 69 [(.agg [i64 o, i64 q, .sl 2 nl (ls.map linkA)], false)] [] [(.sl 1 false (bsl (lsaB ⟨o, q, nl, ls⟩)), true)] [] := by
 refine good_of_body3 48 Try.func69 rfl rfl rfl (by simp) ?_
 intro s m ha hr hv hG
 have f0 : s 0 = .v (.agg [i64 o, i64 q, .sl 2 nl (ls.map linkA)]) := ha 0 _ rfl
 clear ha
 obtain ⟨b1, b2, b3, b4⟩ := lsa_bd hok
 dsimp only at b1 b2 b3 b4
 refine AW.sr (cfg := cfg2) ?_
 apply aops_step (by decide) rfl
 ·intro K hK
  simp (disch := first | omega | decide) only [go_sem, f0, act_box_t ti79, List.map, byte_wrap, List.append_assoc, ← numR_one]
  rw [settleL_vish _ _ (by rfl)]
  simp (disch := first | omega | decide) only [go_sem, f0, cellsL, List.map, List.length_cons, List.length_nil, Nat.reduceAdd, if_true, byte_wrap, List.append_assoc, ← numR_one]
  exact hK _
 iterate 1 (apply aops_step (by decide) rfl; · (intro K hK; simp (disch := first | omega | decide) only [go_sem, f0, sz22, byte_wrap, List.append_assoc, ← numR_one]; exact hK _))
 refine aops_nil ?_
 refine AW.seq ?_
 refine AW.draw (cfg := cfg2) (by kernel_rfl) (by kernel_rfl) (by kernel_rfl) ?_
 apply adraw_step rfl
 ·intro K hK
  simp (disch := first | omega | decide) only [go_sem, f0, act_fieldAddr_t fo79_0, List.map, byte_wrap, List.append_assoc, ← numR_one]
  rw [mwp_fieldAddr_b (by simp (disch := first | omega | decide) only [go_sem, f0, byte_wrap, List.append_assoc, ← numR_one]; rfl)]
  exact hK
 apply adraw_step rfl
 ·intro K hK
  simp (disch := first | omega | decide) only [go_sem, f0, act_load_t ti3, List.map, byte_wrap, List.append_assoc, ← numR_one]
  rw [mwp_load_b1 (by simp (disch := first | omega | decide) only [go_sem, f0, byte_wrap, List.append_assoc, ← numR_one]; rfl) (by rfl)]
  exact hK
 iterate 1 (apply adraw_step rfl; · (intro K hK; simp (disch := first | omega | decide) only [go_sem, f0, act_convI u3 u5, byte_wrap, List.append_assoc, ← numR_one]; exact hK))
 apply adraw_step rfl
 ·intro K hK
  rw [act_bs el22 ti5]
  (simp [-List.map_take, -List.map_drop, -BitVec.toNat_ofInt, -BitVec.ofInt_natCast, -BitVec.toNat_setWidth, -BitVec.toNat_ushiftRight, -BitVec.toNat_umod, -BitVec.toNat_udiv, go_sem, elems_v, cellishAV, Value.oneCell', isAggAV, partsOf, TI.z, TI.mk1, f0]; exact hK)
 apply adraw_step rfl
 ·intro K hK
  simp (disch := first | omega | decide) only [go_sem, f0, act_fieldAddr_t fo79_1, List.map, byte_wrap, List.append_assoc, ← numR_one]
  rw [mwp_fieldAddr_b (by simp (disch := first | omega | decide) only [go_sem, f0, byte_wrap, List.append_assoc, ← numR_one]; rfl)]
  exact hK
 apply adraw_step rfl
 ·intro K hK
  simp (disch := first | omega | decide) only [go_sem, f0, act_load_t ti3, List.map, byte_wrap, List.append_assoc, ← numR_one]
  rw [mwp_load_b1 (by simp (disch := first | omega | decide) only [go_sem, f0, byte_wrap, List.append_assoc, ← numR_one]; rfl) (by rfl)]
  exact hK
 iterate 1 (apply adraw_step rfl; · (intro K hK; simp (disch := first | omega | decide) only [go_sem, f0, act_convI u3 u71, byte_wrap, List.append_assoc, ← numR_one]; exact hK))
 apply adraw_step rfl
 ·intro K hK
  simp (disch := first | omega | decide) only [go_sem, f0, act_call, List.map, byte_wrap, List.append_assoc, ← numR_one]
  apply mwp_call_r rfl rfl rfl
  ·intro Q hQ
   (simp (disch := first | omega | decide) only [go_sem, f0, peekL, reifyL_nil, reifyL_cons, reify_v, byte_wrap, List.append_assoc, ← numR_one]; (exact hQ))
  ·exact good_refNum 8 _ (by omega) (by omega)
  ·simp [-List.map_take, -List.map_drop, -List.map_append, -List.map_replicate, -List.reduceReplicate, noPtrL, noPtr, noPtrL_bsl, noPtrL_map, sub]
  ·rw [resOf_own1 (by (simp (disch := decide) only [mset_ne, hr]; done))]
   exact hK
 apply adraw_step rfl
 ·intro K hK
  simp (disch := first | omega | decide) only [go_sem, f0, List.map, byte_wrap, List.append_assoc, ← numR_one]
  apply mwp_append2 el22 ti5 u22
  case hpk => intro Q hQ; (rw [peek_own (by simp (disch := first | omega | decide) only [go_sem, f0, byte_wrap, List.append_assoc, ← numR_one]; rfl)]; (try rw [sub_full (by rfl)]); exact hQ)
  case hs' => rfl
  case ho => simp (disch := first | omega | decide) only [go_sem, f0, byte_wrap, List.append_assoc, ← numR_one]; rfl
  case hsz => rfl
  case hhi => (simp [numR_length, linksB_len]; done)
  case hb => (simp [sub, roomB, numR_length, linksB_len]; done)
  case hy => exact all_cells rfl
  case k => (try simp only [List.nil_append, ← List.map_append, Bool.false_and]); exact hK
 apply adraw_step rfl
 ·intro K hK
  simp (disch := first | omega | decide) only [go_sem, f0, byte_wrap, List.append_assoc, ← numR_one]
  rw [asg_tmp (by simp (disch := first | omega | decide) only [go_sem, f0, byte_wrap, List.append_assoc, ← numR_one]; rfl)]
  exact hK
 refine adraw_nil (by kernel_rfl) ?_
 refine AW.sr (cfg := cfg2) ?_
 iterate 1 (apply aops_step (by decide) rfl; · (intro K hK; simp (disch := first | omega | decide) only [go_sem, f0, byte_wrap, List.append_assoc, ← numR_one]; exact hK _))
 refine aops_fl (by decide) (by decide) fo79_2 ti77 (by simp (disch := first | omega | decide) only [go_sem, f0, byte_wrap, List.append_assoc, ← numR_one]; rfl) (by simp (disch := first | omega | decide) only [go_sem, f0, byte_wrap, List.append_assoc, ← numR_one]; rfl) (by rfl) ?_
 iterate 2 (apply aops_step (by decide) rfl; · (intro K hK; simp (disch := first | omega | decide) only [go_sem, f0, List.map, List.length_map, aops_len u77, act_convI u3 u5, byte_wrap, List.append_assoc, ← numR_one]; exact hK _))
 apply aops_step (by decide) rfl
 ·intro K hK
  rw [act_bs el22 ti5]
  (simp [-List.map_take, -List.map_drop, -BitVec.toNat_ofInt, -BitVec.ofInt_natCast, -BitVec.toNat_setWidth, -BitVec.toNat_ushiftRight, -BitVec.toNat_umod, -BitVec.toNat_udiv, go_sem, elems_v, cellishAV, Value.oneCell', isAggAV, partsOf, TI.z, TI.mk1, f0]; exact hK _)
 apply aops_step (by decide) rfl
 ·intro K hK
  simp (disch := first | omega | decide) only [go_sem, f0, List.map, byte_wrap, List.append_assoc, ← numR_one]
  apply mwp_append2 el22 ti5 u22
  case hpk => intro Q hQ; (rw [peek_own (by simp (disch := first | omega | decide) only [go_sem, f0, byte_wrap, List.append_assoc, ← numR_one]; rfl)]; (try rw [sub_full (by rfl)]); exact hQ)
  case hs' => rfl
  case ho => simp (disch := first | omega | decide) only [go_sem, f0, byte_wrap, List.append_assoc, ← numR_one]; rfl
  case hsz => rfl
  case hhi => (simp [numR_length, linksB_len]; done)
  case hb => (simp [sub, roomB, numR_length, linksB_len]; done)
  case hy => exact all_cells rfl
  case k => (try simp only [List.nil_append, ← List.map_append, Bool.false_and]); exact hK _
 apply aops_step (by decide) rfl
 ·intro K hK
  simp (disch := first | omega | decide) only [go_sem, f0, byte_wrap, List.append_assoc, ← numR_one]
  rw [asg_tmp (by simp (disch := first | omega | decide) only [go_sem, f0, byte_wrap, List.append_assoc, ← numR_one]; rfl)]
  exact hK _
 refine aops_nil ?_
 refine AW.seq ?_
 refine AW.sr (cfg := cfg2) ?_
 iterate 1 (apply aops_step (by decide) rfl; · (intro K hK; simp (disch := first | omega | decide) only [go_sem, f0, byte_wrap, List.append_assoc, ← numR_one]; exact hK _))
 refine aops_nil ?_
 refine AW.block ?_
 refine AW.forN (fun k σ => ∃ s m, σ = ⟨48, s, m⟩ ∧ s 1 = .lptr (.tmp 1 0) (m.objs (.tmp 1 0)).1 0 ∧ (m.objs (.tmp 1 0)).2 = .box [.v (i64 o), .v (i64 q), .v (.sl 2 nl (ls.map linkA))] ∧ s 3 = .own (.var 3) (m.objs (.var 3)).1 0 (10 + 5 * k) ∧ (m.objs (.var 3)).2 = .arr false 1 (bsl (numR o 1 ++ (numR q 8 ++ (numR (ls.length : Int) 1 ++ linksB (ls.take k))))) ∧ s 4 = .v (i64 (k : Int)) ∧ (∀ i, (m.objs (.res i)).2 = .dead) ∧ m.G = []) (ls.length) ?_ ?_ ?_
 ·refine ⟨_, _, rfl, ?_, ?_, ?_, ?_, ?_, (by intro i; simp [Mem.set, hr]), (by exact hG)⟩ <;> try simp (disch := first | omega | decide) only [go_sem, f0, byte_wrap, List.append_assoc, ← numR_one]
  all_goals first | rfl | (simp [linksB, numR_one]; done)
 ·clear f0 hr hG
  rintro k σ hk ⟨s, m, rfl, f1, o1, f3, o3, f4, hr, hG⟩
  obtain ⟨g1, o1⟩ : ∃ g, m.objs (.tmp 1 0) = (g, .box [.v (i64 o), .v (i64 q), .v (.sl 2 nl (ls.map linkA))]) := ⟨_, Prod.ext rfl o1⟩
  rw [o1] at f1
  obtain ⟨g3, o3⟩ : ∃ g, m.objs (.var 3) = (g, .arr false 1 (bsl (numR o 1 ++ (numR q 8 ++ (numR (ls.length : Int) 1 ++ linksB (ls.take k)))))) := ⟨_, Prod.ext rfl o3⟩
  rw [o3] at f3
  refine AW.seq ?_
  refine AW.sr (cfg := cfg2) ?_
  iterate 1 (apply aops_step (by decide) rfl; · (intro K hK; simp (disch := first | omega | decide) only [go_sem, f1, f3, f4, o1, o3, byte_wrap, List.append_assoc, ← numR_one]; exact hK _))
  refine aops_fl (by decide) (by decide) fo79_2 ti77 (by simp (disch := first | omega | decide) only [go_sem, f1, f3, f4, o1, o3, byte_wrap, List.append_assoc, ← numR_one]; rfl) (by simp (disch := first | omega | decide) only [go_sem, f1, f3, f4, o1, o3, byte_wrap, List.append_assoc, ← numR_one]; rfl) (by rfl) ?_
  iterate 2 (apply aops_step (by decide) rfl; · (intro K hK; simp (disch := first | omega | decide) only [go_sem, f1, f3, f4, o1, o3, List.map, List.length_map, aops_len u77, byte_wrap, List.append_assoc, ← numR_one]; exact hK _))
  refine aops_nil ?_
  apply AW.cond
  ·(simp only [go_sem, f1, f3, f4, o1, o3, byte_wrap, List.append_assoc, ← numR_one]; rfl)
  case hf => intro hb; (simp at hb; omega)
  case ht =>
  intro hb
  have hbt25 := hb
  refine AW.skip ?_
  refine AW.seq ?_
  refine AW.block ?_
  obtain ⟨c1, c2⟩ := link_bd b4 hk
  refine AW.draw (cfg := cfg2) (by kernel_rfl) (by kernel_rfl) (by kernel_rfl) ?_
  iterate 1 (apply adraw_step rfl; · (intro K hK; simp (disch := first | omega | decide) only [go_sem, f1, f3, f4, o1, o3, byte_wrap, List.append_assoc, ← numR_one]; exact hK))
  apply adraw_step rfl
  ·intro K hK
   simp (disch := first | omega | decide) only [go_sem, f1, f3, f4, o1, o3, act_fieldAddr_t fo79_2, List.map, byte_wrap, List.append_assoc, ← numR_one]
   rw [mwp_fieldAddr_b (by simp only [go_sem, f1, f3, f4, o1, o3, byte_wrap, List.append_assoc, ← numR_one]; rfl)]
   exact hK
  apply adraw_step rfl
  ·intro K hK
   simp (disch := first | omega | decide) only [go_sem, f1, f3, f4, o1, o3, act_load_t ti77, List.map, byte_wrap, List.append_assoc, ← numR_one]
   rw [mwp_load_b1 (by simp only [go_sem, f1, f3, f4, o1, o3, byte_wrap, List.append_assoc, ← numR_one]; rfl) (by rfl)]
   exact hK
  iterate 1 (apply adraw_step rfl; · (intro K hK; simp (disch := first | omega | decide) only [go_sem, f1, f3, f4, o1, o3, byte_wrap, List.append_assoc, ← numR_one]; exact hK))
  apply adraw_step rfl
  ·intro K hK
   simp (disch := first | omega | decide) only [go_sem, f1, f3, f4, o1, o3, act_indexAddr_s u77 ti124, List.map, byte_wrap, List.append_assoc, ← numR_one]
   skip
   exact hK
  apply adraw_step rfl
  ·intro K hK
   simp (disch := first | omega | decide) only [go_sem, f1, f3, f4, o1, o3, act_fieldAddr_t fo124_0, List.map, byte_wrap, List.append_assoc, ← numR_one]
   skip
   exact hK
  apply adraw_step rfl
  ·intro K hK
   simp (disch := first | omega | decide) only [go_sem, f1, f3, f4, o1, o3, act_load_t ti3, List.map, byte_wrap, List.append_assoc, ← numR_one]
   rw [mwp_load_i1 (by rfl)]
   exact hK
  iterate 1 (apply adraw_step rfl; · (intro K hK; simp (disch := first | omega | decide) only [go_sem, f1, f3, f4, o1, o3, act_convI u3 u5, byte_wrap, List.append_assoc, ← numR_one]; exact hK))
  apply adraw_step rfl
  ·intro K hK
   rw [act_bs el22 ti5]
   (simp [-List.map_take, -List.map_drop, -BitVec.toNat_ofInt, -BitVec.ofInt_natCast, -BitVec.toNat_setWidth, -BitVec.toNat_ushiftRight, -BitVec.toNat_umod, -BitVec.toNat_udiv, go_sem, elems_v, cellishAV, Value.oneCell', isAggAV, partsOf, TI.z, TI.mk1, f1, f3, f4, o1, o3]; exact hK)
  apply adraw_step rfl
  ·intro K hK
   simp (disch := first | omega | decide) only [go_sem, f1, f3, f4, o1, o3, List.map, byte_wrap, List.append_assoc, ← numR_one]
   apply mwp_append2 el22 ti5 u22
   case hpk => intro Q hQ; (rw [peek_own (by simp (disch := first | omega | decide) only [go_sem, f1, f3, f4, o1, o3, byte_wrap, List.append_assoc, ← numR_one]; rfl)]; (try rw [sub_full (by rfl)]); exact hQ)
   case hs' => rfl
   case ho => simp (disch := first | omega | decide) only [go_sem, f1, f3, f4, o1, o3, byte_wrap, List.append_assoc, ← numR_one]; rfl
   case hsz => rfl
   case hhi => (simp [numR_length, linksB_len]; omega)
   case hb => (simp only [List.length_cons, List.length_nil, List.length_map, Nat.zero_add, Nat.reduceAdd, roomB]; omega)
   case hy => exact all_cells rfl
   case k => (try simp only [List.nil_append, ← List.map_append, Bool.false_and]); exact hK
  apply adraw_step rfl
  ·intro K hK
   simp (disch := first | omega | decide) only [go_sem, f1, f3, f4, o1, o3, act_fieldAddr_t fo79_2, List.map, byte_wrap, List.append_assoc, ← numR_one]
   rw [mwp_fieldAddr_b (by simp (disch := first | omega | decide) only [go_sem, f1, f3, f4, o1, o3, byte_wrap, List.append_assoc, ← numR_one]; rfl)]
   exact hK
  apply adraw_step rfl
  ·intro K hK
   simp (disch := first | omega | decide) only [go_sem, f1, f3, f4, o1, o3, act_load_t ti77, List.map, byte_wrap, List.append_assoc, ← numR_one]
   rw [mwp_load_b1 (by simp (disch := first | omega | decide) only [go_sem, f1, f3, f4, o1, o3, byte_wrap, List.append_assoc, ← numR_one]; rfl) (by rfl)]
   exact hK
  iterate 1 (apply adraw_step rfl; · (intro K hK; simp (disch := first | omega | decide) only [go_sem, f1, f3, f4, o1, o3, byte_wrap, List.append_assoc, ← numR_one]; exact hK))
  apply adraw_step rfl
  ·intro K hK
   simp (disch := first | omega | decide) only [go_sem, f1, f3, f4, o1, o3, act_indexAddr_s u77 ti124, List.map, byte_wrap, List.append_assoc, ← numR_one]
   skip
   exact hK
  apply adraw_step rfl
  ·intro K hK
   simp (disch := first | omega | decide) only [go_sem, f1, f3, f4, o1, o3, act_fieldAddr_t fo124_1, List.map, byte_wrap, List.append_assoc, ← numR_one]
   skip
   exact hK
  apply adraw_step rfl
  ·intro K hK
   simp (disch := first | omega | decide) only [go_sem, f1, f3, f4, o1, o3, act_load_t ti3, List.map, byte_wrap, List.append_assoc, ← numR_one]
   rw [mwp_load_i1 (by rfl)]
   exact hK
  iterate 1 (apply adraw_step rfl; · (intro K hK; simp (disch := first | omega | decide) only [go_sem, f1, f3, f4, o1, o3, act_convI u3 u71, byte_wrap, List.append_assoc, ← numR_one]; exact hK))
  apply adraw_step rfl
  ·intro K hK
   simp (disch := first | omega | decide) only [go_sem, f1, f3, f4, o1, o3, act_call, List.map, byte_wrap, List.append_assoc, ← numR_one]
   apply mwp_call_r rfl rfl rfl
   ·intro Q hQ
    (simp (disch := first | omega | decide) only [go_sem, f1, f3, f4, o1, o3, peekL, reifyL_nil, reifyL_cons, reify_v, byte_wrap, List.append_assoc, ← numR_one]; (exact hQ))
   ·exact good_refNum 4 _ (by omega) (by omega)
   ·simp [-List.map_take, -List.map_drop, -List.map_append, -List.map_replicate, -List.reduceReplicate, noPtrL, noPtr, noPtrL_bsl, noPtrL_map, sub]
   ·rw [resOf_own1 (by (simp (disch := decide) only [mset_ne, hr]; done))]
    exact hK
  apply adraw_step rfl
  ·intro K hK
   simp (disch := first | omega | decide) only [go_sem, f1, f3, f4, o1, o3, List.map, byte_wrap, List.append_assoc, ← numR_one]
   apply mwp_append2 el22 ti5 u22
   case hpk => intro Q hQ; (rw [peek_own (by simp (disch := first | omega | decide) only [go_sem, f1, f3, f4, o1, o3, byte_wrap, List.append_assoc, ← numR_one]; rfl)]; (try rw [sub_full (by rfl)]); exact hQ)
   case hs' => rfl
   case ho => simp (disch := first | omega | decide) only [go_sem, f1, f3, f4, o1, o3, byte_wrap, List.append_assoc, ← numR_one]; rfl
   case hsz => rfl
   case hhi => (simp [numR_length, linksB_len]; omega)
   case hb => (simp [sub, roomB, numR_length, linksB_len]; omega)
   case hy => exact all_cells rfl
   case k => (try simp only [List.nil_append, ← List.map_append, Bool.false_and]); exact hK
  apply adraw_step rfl
  ·intro K hK
   simp (disch := first | omega | decide) only [go_sem, f1, f3, f4, o1, o3, byte_wrap, List.append_assoc, ← numR_one]
   rw [asg_tmp (by simp (disch := first | omega | decide) only [go_sem, f1, f3, f4, o1, o3, byte_wrap, List.append_assoc, ← numR_one]; rfl)]
   exact hK
  refine adraw_nil (by kernel_rfl) ?_
  refine AW.region (cfg := cfg2) ?_
  iterate 3 (apply aops_step (by decide) rfl; · (intro K hK; simp (disch := first | omega | decide) only [go_sem, f1, f3, f4, o1, o3, byte_wrap, List.append_assoc, ← numR_one]; exact hK _))
  refine aops_nil ?_
  refine ⟨_, _, rfl, ?_, ?_, ?_, ?_, ?_, (by intro i; simp [Mem.set, hr]), (by exact hG)⟩ <;> try simp (disch := first | omega | decide) only [go_sem, f1, f3, f4, o1, o3, byte_wrap, List.append_assoc, ← numR_one]
  all_goals first | rfl | (rw [linksB_take hk]; simp [linkB, numR_one]; done)
 ·clear f0 hr hG
  rintro σ ⟨s, m, rfl, f1, o1, f3, o3, f4, hr, hG⟩
  obtain ⟨g1, o1⟩ : ∃ g, m.objs (.tmp 1 0) = (g, .box [.v (i64 o), .v (i64 q), .v (.sl 2 nl (ls.map linkA))]) := ⟨_, Prod.ext rfl o1⟩
  rw [o1] at f1
  obtain ⟨g3, o3⟩ : ∃ g, m.objs (.var 3) = (g, .arr false 1 (bsl (numR o 1 ++ (numR q 8 ++ (numR (ls.length : Int) 1 ++ linksB (ls.take ls.length)))))) := ⟨_, Prod.ext rfl o3⟩
  rw [o3] at f3
  refine AW.seq ?_
  refine AW.sr (cfg := cfg2) ?_
  iterate 1 (apply aops_step (by decide) rfl; · (intro K hK; simp (disch := first | omega | decide) only [go_sem, f1, f3, f4, o1, o3, byte_wrap, List.append_assoc, ← numR_one]; exact hK _))
  refine aops_fl (by decide) (by decide) fo79_2 ti77 (by simp (disch := first | omega | decide) only [go_sem, f1, f3, f4, o1, o3, byte_wrap, List.append_assoc, ← numR_one]; rfl) (by simp (disch := first | omega | decide) only [go_sem, f1, f3, f4, o1, o3, byte_wrap, List.append_assoc, ← numR_one]; rfl) (by rfl) ?_
  iterate 2 (apply aops_step (by decide) rfl; · (intro K hK; simp (disch := first | omega | decide) only [go_sem, f1, f3, f4, o1, o3, List.map, List.length_map, aops_len u77, byte_wrap, List.append_assoc, ← numR_one]; exact hK _))
  refine aops_nil ?_
  apply AW.cond
  ·(simp only [go_sem, f1, f3, f4, o1, o3, byte_wrap, List.append_assoc, ← numR_one]; rfl)
  case ht => intro hb; (simp at hb; done)
  case hf =>
  intro hb
  have hbt25 := hb
  refine AW.exit ?_
  refine AW.sr (cfg := cfg2) ?_
  iterate 1 (apply aops_step (by decide) rfl; · (intro K hK; simp (disch := first | omega | decide) only [go_sem, f1, f3, f4, o1, o3, byte_wrap, List.append_assoc, ← numR_one]; exact hK _))
  apply aops_step (by decide) rfl
  ·intro K hK
   simp (disch := first | omega | decide) only [go_sem, f1, f3, f4, o1, o3, byte_wrap, List.append_assoc, ← numR_one]
   rw [asg_mv (by rfl) (by decide) (by simp (disch := first | omega | decide) only [go_sem, f1, f3, f4, o1, o3, byte_wrap, List.append_assoc, ← numR_one] <;> rfl)]
   exact hK _
  refine aops_nil ?_
  refine AW.ret ?_
  refine ⟨.inr rfl, ?_⟩
  refine leavesN (leaves_own1 2 rfl (by simp (disch := first | omega | decide) only [go_sem, f1, f3, f4, o1, o3, byte_wrap, List.append_assoc, ← numR_one] <;> rfl) (by simp (disch := first | omega | decide) only [go_sem, f1, f3, f4, o1, o3, byte_wrap, List.append_assoc, ← numR_one] <;> rfl) (by decide) (by rw [sub_full (by simp [numR_length, linksB_len]; omega)]; simp only [List.take_length, lsaB]) (by exact hG))
end Go.Vai.L
