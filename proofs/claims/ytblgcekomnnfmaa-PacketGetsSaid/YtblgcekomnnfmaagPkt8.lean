import Derived.Test.YtblgcekomnnfmaagPkt5
namespace Go.Vai.P
open Go.Proofs Go.Vai Go.Vai.G Go.Vai.L Go.Vai.O Go.Vai.U Go.Vai.Z
set_option linter.unusedSimpArgs false
set_option linter.unusedVariables false
set_option maxHeartbeats 4000000
set_option maxRecDepth 100000
theorem wrap_r {l : List (BitVec 8)} {a : Nat} : IntKind.i64.wrap (rV l a false 4) = rV l a false 4 := by
  have := rV_range4 l a false
  rw [IntKind.wrap_i64]; omega
theorem two_one (a b : Int) : [BitVec.ofInt 8 a, BitVec.ofInt 8 b] = numR a 1 ++ numR b 1 := by rw [numR_one, numR_one]; rfl
theorem good_num (nil : Bool) (l : List (BitVec 8)) (a : Nat) (hl : l.length ≤ 140737488355000) (ha : a ≤ l.length) (k : Int) : Good Try.prog 37 [(.sl 1 nil (bsl l), false), (i64 (a : Int), false), (i64 k, false)] [] [(i64 (IntKind.i64.wrap (rV l a false k)), false)] [] := by
 refine good_of_body2 19 Try.func37 rfl rfl rfl (by simp) ?_
 intro s m ha hr hv hG
 have f0 : s 0 = .v (.sl 1 nil (bsl l)) := ha 0 _ rfl
 have f1 : s 1 = .v (i64 (a : Int)) := ha 1 _ rfl
 have f2 : s 2 = .v (i64 k) := ha 2 _ rfl
 clear ha
 refine AW.sr (cfg := cfg) ?_
 iterate 1 (apply aops_step (by decide) rfl; · (intro K hK; simp (disch := first | omega | decide) only [go_sem, f0, f1, f2]; exact hK _))
 refine aops_nil ?_
 refine AW.seq ?_
 have vr := rV_range l a false k
 refine AW.region (cfg := cfg) ?_
 iterate 2 (apply aops_step (by decide) rfl; · (intro K hK; simp (disch := first | omega | decide) only [go_sem, f0, f1, f2]; exact hK _))
 apply aops_step (by decide) rfl
 ·intro K hK
  simp (disch := first | omega | decide) only [go_sem, f0, f1, f2, act_build_t ti127 pl127, List.map]
  simp [-List.map_take, -List.map_drop, fillL, okOne, cellishAV, Value.oneCell', cellsL, cellsOf, setAt, M.bind, Mwp, mset_same, Obj.isArr]
  exact hK _
 iterate 1 (apply aops_step (by decide) rfl; · (intro K hK; simp (disch := first | omega | decide) only [go_sem, f0, f1, f2]; exact hK _))
 apply aops_step (by decide) rfl
 ·intro K hK
  simp (disch := first | omega | decide) only [go_sem, f0, f1, f2, act_call, List.map]
  apply mwp_call_r rfl rfl rfl
  ·intro Q hQ
   (simp (disch := first | omega | decide) only [go_sem, f0, f1, f2, peekL, reifyL_nil, reifyL_cons, reify_v]; (exact hQ))
  ·exact O.good_refReadNum nil l a false (by omega) ha k
  ·simp [-List.map_take, -List.map_drop, -List.map_append, -List.map_replicate, -List.reduceReplicate, noPtrL, noPtr, noPtrL_bsl, noPtrL_map, sub]
  ·simp (disch := first | omega | decide) only [go_sem, f0, f1, f2]
   exact hK _
 iterate 3 (apply aops_step (by decide) rfl; · (intro K hK; simp (disch := first | omega | decide) only [go_sem, f0, f1, f2]; exact hK _))
 apply aops_step (by decide) rfl
 ·intro K hK
  simp (disch := first | omega | decide) only [go_sem, f0, f1, f2, act_alloc_t ti127, List.map]
  exact hK _
 apply aops_step0 rfl
 ·intro K hK
  simp (disch := first | omega | decide) only [go_sem, f0, f1, f2, act_store_t ti127, List.map]
  rw [mwp_store_c (by simp (disch := first | omega | decide) only [go_sem, f0, f1, f2]; rfl) (by rfl) (by rfl) (by rfl) (by simp)]
  try simp only [setAt, cellsL, cellsOf_agg, cellsOf_base, List.map_cons, List.map_nil, List.set_cons_zero, List.set_cons_succ, Nat.reduceAdd, Nat.zero_add, hG]
  exact hK _
 iterate 1 (apply aops_step (by decide) rfl; · (intro K hK; simp (disch := first | omega | decide) only [go_sem, f0, f1, f2]; exact hK _))
 refine aops_nil ?_
 refine AW.sr (cfg := cfg) ?_
 iterate 3 (apply aops_step (by decide) rfl; · (intro K hK; simp (disch := first | omega | decide) only [go_sem, f0, f1, f2, act_convI u71 u3]; exact hK _))
 refine aops_nil ?_
 refine AW.ret ?_
 refine ⟨.inr rfl, ?_⟩
 refine leaves_tmp1 6 rfl ?_ (by exact hG)
 simp (disch := first | omega | decide) only [go_sem, f0, f1, f2]
 all_goals first | done | rfl | trace_state
theorem good_num4 (nil : Bool) (l : List (BitVec 8)) (a : Nat) (hl : l.length ≤ 140737488355000) (ha : a ≤ l.length) : Good Try.prog 37 [(.sl 1 nil (bsl l), false), (i64 (a : Int), false), (i64 4, false)] [] [(i64 (rV l a false 4), false)] [] := by
  have g := good_num nil l a hl ha 4
  rw [wrap_r] at g; exact g
theorem good_refPutK (p : Pkt) (hp1 : p.hs.length ≤ 9223372036854775807) (hp2 : p.xs.length ≤ 9223372036854775807) (hp3 : p.ls.length ≤ 9223372036854775807) (hp4 : ∀ x ∈ p.ls, x.ls.length ≤ 9223372036854775807) (hok : pktOK p = true) : Good Try.prog 31 [(pktA p, false)] [] [(.sl 1 false (bsl (pktS p)), false)] [] := by
 refine good_of_body2 137 Try.func31 rfl rfl rfl (by simp) ?_
 intro s m ha hr hv hG
 have f0 : s 0 = .v (.agg [i64 p.kind, i64 p.fr, i64 p.boot, i64 p.to, i64 p.tb, i64 p.ep, i64 p.te, .sl 2 p.hn (p.hs.map linkA), .sl 2 p.xn (p.xs.map linkA), .sl 3 p.ln (p.ls.map lsaA)]) := ha 0 _ rfl
 clear ha
 obtain ⟨c1, c2, c3, c4, c5, c6, c7⟩ := pk_bd hok
 obtain ⟨d1, d2, d3, d4, d5, d6, d7⟩ := pk_len hok
 have ht := topB_len p
 have ht2 := epB_len p
 have hpb := pktB_len hok
 have hls := lsasB_len d5
 refine AW.sr (cfg := cfg) ?_
 apply aops_step (by decide) rfl
 ·intro K hK
  simp (disch := first | omega | decide) only [go_sem, f0, act_box_t ti28, List.map, byte_wrap, List.append_assoc, two_one, ← numR_one, cnt_is]
  rw [settleL_vish _ _ (by rfl)]
  simp (disch := first | omega | decide) only [go_sem, f0, cellsL, List.map, List.length_cons, List.length_nil, Nat.reduceAdd, if_true, byte_wrap, List.append_assoc, two_one, ← numR_one, cnt_is]
  exact hK _
 iterate 1 (apply aops_step (by decide) rfl; · (intro K hK; simp (disch := first | omega | decide) only [go_sem, f0, sz22, byte_wrap, List.append_assoc, two_one, ← numR_one, cnt_is]; exact hK _))
 refine aops_nil ?_
 refine AW.seq ?_
 refine AW.draw (cfg := cfg) (by kernel_rfl) (by kernel_rfl) (by kernel_rfl) ?_
 apply adraw_step rfl
 ·intro K hK
  simp (disch := first | omega | decide) only [go_sem, f0, act_fieldAddr_t fo28_0, List.map, byte_wrap, List.append_assoc, two_one, ← numR_one, cnt_is]
  rw [mwp_fieldAddr_b (by simp (disch := first | omega | decide) only [go_sem, f0, byte_wrap, List.append_assoc, two_one, ← numR_one, cnt_is]; rfl)]
  exact hK
 apply adraw_step rfl
 ·intro K hK
  simp (disch := first | omega | decide) only [go_sem, f0, act_load_t ti3, List.map, byte_wrap, List.append_assoc, two_one, ← numR_one, cnt_is]
  rw [mwp_load_b1 (by simp (disch := first | omega | decide) only [go_sem, f0, byte_wrap, List.append_assoc, two_one, ← numR_one, cnt_is]; rfl) (by rfl)]
  exact hK
 iterate 1 (apply adraw_step rfl; · (intro K hK; simp (disch := first | omega | decide) only [go_sem, f0, act_convI u3 u5, byte_wrap, List.append_assoc, two_one, ← numR_one, cnt_is]; exact hK))
 apply adraw_step rfl
 ·intro K hK
  simp (disch := first | omega | decide) only [go_sem, f0, act_fieldAddr_t fo28_1, List.map, byte_wrap, List.append_assoc, two_one, ← numR_one, cnt_is]
  rw [mwp_fieldAddr_b (by simp (disch := first | omega | decide) only [go_sem, f0, byte_wrap, List.append_assoc, two_one, ← numR_one, cnt_is]; rfl)]
  exact hK
 apply adraw_step rfl
 ·intro K hK
  simp (disch := first | omega | decide) only [go_sem, f0, act_load_t ti3, List.map, byte_wrap, List.append_assoc, two_one, ← numR_one, cnt_is]
  rw [mwp_load_b1 (by simp (disch := first | omega | decide) only [go_sem, f0, byte_wrap, List.append_assoc, two_one, ← numR_one, cnt_is]; rfl) (by rfl)]
  exact hK
 iterate 1 (apply adraw_step rfl; · (intro K hK; simp (disch := first | omega | decide) only [go_sem, f0, act_convI u3 u5, byte_wrap, List.append_assoc, two_one, ← numR_one, cnt_is]; exact hK))
 apply adraw_step rfl
 ·intro K hK
  rw [act_bs el22 ti5]
  (simp [-List.map_take, -List.map_drop, -BitVec.toNat_ofInt, -BitVec.ofInt_natCast, -BitVec.toNat_setWidth, -BitVec.toNat_ushiftRight, -BitVec.toNat_umod, -BitVec.toNat_udiv, go_sem, elems_v, cellishAV, Value.oneCell', isAggAV, partsOf, TI.z, TI.mk1, f0]; exact hK)
 apply adraw_step rfl
 ·intro K hK
  simp (disch := first | omega | decide) only [go_sem, f0, act_fieldAddr_t fo28_2, List.map, byte_wrap, List.append_assoc, two_one, ← numR_one, cnt_is]
  rw [mwp_fieldAddr_b (by simp (disch := first | omega | decide) only [go_sem, f0, byte_wrap, List.append_assoc, two_one, ← numR_one, cnt_is]; rfl)]
  exact hK
 apply adraw_step rfl
 ·intro K hK
  simp (disch := first | omega | decide) only [go_sem, f0, act_load_t ti3, List.map, byte_wrap, List.append_assoc, two_one, ← numR_one, cnt_is]
  rw [mwp_load_b1 (by simp (disch := first | omega | decide) only [go_sem, f0, byte_wrap, List.append_assoc, two_one, ← numR_one, cnt_is]; rfl) (by rfl)]
  exact hK
 iterate 1 (apply adraw_step rfl; · (intro K hK; simp (disch := first | omega | decide) only [go_sem, f0, act_convI u3 u71, byte_wrap, List.append_assoc, two_one, ← numR_one, cnt_is]; exact hK))
 apply adraw_step rfl
 ·intro K hK
  simp (disch := first | omega | decide) only [go_sem, f0, act_call, List.map, byte_wrap, List.append_assoc, two_one, ← numR_one, cnt_is]
  apply mwp_call_r rfl rfl rfl
  ·intro Q hQ
   (simp (disch := first | omega | decide) only [go_sem, f0, peekL, reifyL_nil, reifyL_cons, reify_v, byte_wrap, List.append_assoc, two_one, ← numR_one, cnt_is]; (exact hQ))
  ·exact O.good_refNum 4 p.boot (by omega) (by omega)
  ·simp [-List.map_take, -List.map_drop, -List.map_append, -List.map_replicate, -List.reduceReplicate, noPtrL, noPtr, noPtrL_bsl, noPtrL_map, sub]
  ·rw [resOf_own1 (by (simp (disch := decide) only [mset_ne, hr]; done))]
   exact hK
 apply adraw_step rfl
 ·intro K hK
  simp (disch := first | omega | decide) only [go_sem, f0, List.map, byte_wrap, List.append_assoc, two_one, ← numR_one, cnt_is]
  apply mwp_append2 el22 ti5 u22
  case hpk => intro Q hQ; (rw [peek_own (by simp (disch := first | omega | decide) only [go_sem, f0, byte_wrap, List.append_assoc, two_one, ← numR_one, cnt_is]; rfl)]; (try rw [sub_full (by rfl)]); exact hQ)
  case hs' => rfl
  case ho => simp (disch := first | omega | decide) only [go_sem, f0, byte_wrap, List.append_assoc, two_one, ← numR_one, cnt_is]; rfl
  case hsz => rfl
  case hhi => (simp [headB_len, linksB_len, itemsB_len, numR_length, List.length_append]; done)
  case hb => (simp [sub, roomB, headB_len, linksB_len, itemsB_len, numR_length, List.length_append]; done)
  case hy => exact all_cells rfl
  case k => (try simp only [List.nil_append, ← List.map_append, Bool.false_and]); exact hK
 apply adraw_step rfl
 ·intro K hK
  simp (disch := first | omega | decide) only [go_sem, f0, byte_wrap, List.append_assoc, two_one, ← numR_one, cnt_is]
  rw [asg_tmp (by simp (disch := first | omega | decide) only [go_sem, f0, byte_wrap, List.append_assoc, two_one, ← numR_one, cnt_is]; rfl)]
  exact hK
 refine adraw_nil (by kernel_rfl) ?_
 refine AW.seq ?_
 refine AW.draw (cfg := cfg) (by kernel_rfl) (by kernel_rfl) (by kernel_rfl) ?_
 iterate 1 (apply adraw_step rfl; · (intro K hK; simp (disch := first | omega | decide) only [go_sem, f0, byte_wrap, List.append_assoc, two_one, ← numR_one, cnt_is]; exact hK))
 apply adraw_step rfl
 ·intro K hK
  simp (disch := first | omega | decide) only [go_sem, f0, act_fieldAddr_t fo28_3, List.map, byte_wrap, List.append_assoc, two_one, ← numR_one, cnt_is]
  rw [mwp_fieldAddr_b (by simp (disch := first | omega | decide) only [go_sem, f0, byte_wrap, List.append_assoc, two_one, ← numR_one, cnt_is]; rfl)]
  exact hK
 apply adraw_step rfl
 ·intro K hK
  simp (disch := first | omega | decide) only [go_sem, f0, act_load_t ti3, List.map, byte_wrap, List.append_assoc, two_one, ← numR_one, cnt_is]
  rw [mwp_load_b1 (by simp (disch := first | omega | decide) only [go_sem, f0, byte_wrap, List.append_assoc, two_one, ← numR_one, cnt_is]; rfl) (by rfl)]
  exact hK
 iterate 1 (apply adraw_step rfl; · (intro K hK; simp (disch := first | omega | decide) only [go_sem, f0, act_convI u3 u5, byte_wrap, List.append_assoc, two_one, ← numR_one, cnt_is]; exact hK))
 apply adraw_step rfl
 ·intro K hK
  rw [act_bs el22 ti5]
  (simp [-List.map_take, -List.map_drop, -BitVec.toNat_ofInt, -BitVec.ofInt_natCast, -BitVec.toNat_setWidth, -BitVec.toNat_ushiftRight, -BitVec.toNat_umod, -BitVec.toNat_udiv, go_sem, elems_v, cellishAV, Value.oneCell', isAggAV, partsOf, TI.z, TI.mk1, f0]; exact hK)
 apply adraw_step rfl
 ·intro K hK
  simp (disch := first | omega | decide) only [go_sem, f0, List.map, byte_wrap, List.append_assoc, two_one, ← numR_one, cnt_is]
  apply mwp_append2 el22 ti5 u22
  case hpk => intro Q hQ; (rw [peek_own (by simp (disch := first | omega | decide) only [go_sem, f0, byte_wrap, List.append_assoc, two_one, ← numR_one, cnt_is]; rfl)]; (try rw [sub_full (by rfl)]); exact hQ)
  case hs' => rfl
  case ho => simp (disch := first | omega | decide) only [go_sem, f0, byte_wrap, List.append_assoc, two_one, ← numR_one, cnt_is]; rfl
  case hsz => rfl
  case hhi => (simp [headB_len, linksB_len, itemsB_len, numR_length, List.length_append]; done)
  case hb => (simp [sub, roomB, headB_len, linksB_len, itemsB_len, numR_length, List.length_append]; done)
  case hy => exact all_cells rfl
  case k => (try simp only [List.nil_append, ← List.map_append, Bool.false_and]); exact hK
 apply adraw_step rfl
 ·intro K hK
  simp (disch := first | omega | decide) only [go_sem, f0, act_fieldAddr_t fo28_4, List.map, byte_wrap, List.append_assoc, two_one, ← numR_one, cnt_is]
  rw [mwp_fieldAddr_b (by simp (disch := first | omega | decide) only [go_sem, f0, byte_wrap, List.append_assoc, two_one, ← numR_one, cnt_is]; rfl)]
  exact hK
 apply adraw_step rfl
 ·intro K hK
  simp (disch := first | omega | decide) only [go_sem, f0, act_load_t ti3, List.map, byte_wrap, List.append_assoc, two_one, ← numR_one, cnt_is]
  rw [mwp_load_b1 (by simp (disch := first | omega | decide) only [go_sem, f0, byte_wrap, List.append_assoc, two_one, ← numR_one, cnt_is]; rfl) (by rfl)]
  exact hK
 iterate 1 (apply adraw_step rfl; · (intro K hK; simp (disch := first | omega | decide) only [go_sem, f0, act_convI u3 u71, byte_wrap, List.append_assoc, two_one, ← numR_one, cnt_is]; exact hK))
 apply adraw_step rfl
 ·intro K hK
  simp (disch := first | omega | decide) only [go_sem, f0, act_call, List.map, byte_wrap, List.append_assoc, two_one, ← numR_one, cnt_is]
  apply mwp_call_r rfl rfl rfl
  ·intro Q hQ
   (simp (disch := first | omega | decide) only [go_sem, f0, peekL, reifyL_nil, reifyL_cons, reify_v, byte_wrap, List.append_assoc, two_one, ← numR_one, cnt_is]; (exact hQ))
  ·exact O.good_refNum 4 p.tb (by omega) (by omega)
  ·simp [-List.map_take, -List.map_drop, -List.map_append, -List.map_replicate, -List.reduceReplicate, noPtrL, noPtr, noPtrL_bsl, noPtrL_map, sub]
  ·rw [resOf_own1 (by (simp (disch := decide) only [mset_ne, hr]; done))]
   exact hK
 apply adraw_step rfl
 ·intro K hK
  simp (disch := first | omega | decide) only [go_sem, f0, List.map, byte_wrap, List.append_assoc, two_one, ← numR_one, cnt_is]
  apply mwp_append2 el22 ti5 u22
  case hpk => intro Q hQ; (rw [peek_own (by simp (disch := first | omega | decide) only [go_sem, f0, byte_wrap, List.append_assoc, two_one, ← numR_one, cnt_is]; rfl)]; (try rw [sub_full (by rfl)]); exact hQ)
  case hs' => rfl
  case ho => simp (disch := first | omega | decide) only [go_sem, f0, byte_wrap, List.append_assoc, two_one, ← numR_one, cnt_is]; rfl
  case hsz => rfl
  case hhi => (simp [headB_len, linksB_len, itemsB_len, numR_length, List.length_append]; done)
  case hb => (simp [sub, roomB, headB_len, linksB_len, itemsB_len, numR_length, List.length_append]; done)
  case hy => exact all_cells rfl
  case k => (try simp only [List.nil_append, ← List.map_append, Bool.false_and]); exact hK
 apply adraw_step rfl
 ·intro K hK
  simp (disch := first | omega | decide) only [go_sem, f0, byte_wrap, List.append_assoc, two_one, ← numR_one, cnt_is]
  rw [asg_tmp (by simp (disch := first | omega | decide) only [go_sem, f0, byte_wrap, List.append_assoc, two_one, ← numR_one, cnt_is]; rfl)]
  exact hK
 refine adraw_nil (by kernel_rfl) ?_
 refine AW.join (fun σ => ∃ s m, σ = ⟨137, s, m⟩ ∧ s 1 = .lptr (.tmp 1 0) (m.objs (.tmp 1 0)).1 0 ∧ (m.objs (.tmp 1 0)).2 = .box [.v (i64 p.kind), .v (i64 p.fr), .v (i64 p.boot), .v (i64 p.to), .v (i64 p.tb), .v (i64 p.ep), .v (i64 p.te), .v (.sl 2 p.hn (p.hs.map linkA)), .v (.sl 2 p.xn (p.xs.map linkA)), .v (.sl 3 p.ln (p.ls.map lsaA))] ∧ s 3 = .own (.var 3) (m.objs (.var 3)).1 0 ((headB p ++ epB p).length) ∧ (m.objs (.var 3)).2 = .arr false 1 (bsl (headB p ++ epB p)) ∧ (∀ i, (m.objs (.res i)).2 = .dead) ∧ m.G = []) ?_ ?_
 ·skip
  refine AW.sr (cfg := cfg) ?_
  refine aops_fl (by decide) (by decide) fo28_0 ti3 (by simp (disch := first | omega | decide) only [go_sem, f0, byte_wrap, List.append_assoc, two_one, ← numR_one, cnt_is]; rfl) (by simp (disch := first | omega | decide) only [go_sem, f0, byte_wrap, List.append_assoc, two_one, ← numR_one, cnt_is]; rfl) (by rfl) ?_
  iterate 2 (apply aops_step (by decide) rfl; · (intro K hK; simp (disch := first | omega | decide) only [go_sem, f0, byte_wrap, List.append_assoc, two_one, ← numR_one, cnt_is]; exact hK _))
  refine aops_flm (dg := 33) (by decide) (by decide) (by decide) fo28_0 ti3 rfl (by simp (disch := first | omega | decide) only [go_sem, f0, byte_wrap, List.append_assoc, two_one, ← numR_one, cnt_is]; rfl) (by simp (disch := first | omega | decide) only [go_sem, f0, byte_wrap, List.append_assoc, two_one, ← numR_one, cnt_is]; rfl) (by simp (disch := first | omega | decide) only [go_sem, f0, byte_wrap, List.append_assoc, two_one, ← numR_one, cnt_is]; rfl) (by rfl) ?_
  apply aops_merge' (by decide) (by exact want_of (d := 33) rfl (by simp (disch := first | omega | decide) only [go_sem, f0, opn_cond, byte_wrap, List.append_assoc, two_one, ← numR_one, cnt_is]; rfl))
  ·intro hc K hK
   simp (disch := first | omega | decide) only [go_sem, f0, opn_cond, hc, if_true, byte_wrap, List.append_assoc, two_one, ← numR_one, cnt_is]
   exact hK _
  iterate 1 (apply aops_step (by decide) rfl; · (intro K hK; simp (disch := first | omega | decide) only [go_sem, f0, byte_wrap, List.append_assoc, two_one, ← numR_one, cnt_is]; exact hK _))
  refine aops_nil ?_
  apply AW.cond
  ·(simp only [go_sem, f0, byte_wrap, List.append_assoc, two_one, ← numR_one, cnt_is]; rfl)
  case ht =>
   intro hb
   try simp only [bo1, bo2, bo3, bo4, bo5, bo6] at hb
   have hbt37 := hb
   refine AW.region (cfg := cfg) ?_
   iterate 1 (apply aops_step (by decide) rfl; · (intro K hK; simp (disch := first | omega | decide) only [go_sem, f0, byte_wrap, List.append_assoc, two_one, ← numR_one, cnt_is]; exact hK _))
   refine aops_fl (by decide) (by decide) fo28_5 ti3 (by simp (disch := first | omega | decide) only [go_sem, f0, byte_wrap, List.append_assoc, two_one, ← numR_one, cnt_is]; rfl) (by simp (disch := first | omega | decide) only [go_sem, f0, byte_wrap, List.append_assoc, two_one, ← numR_one, cnt_is]; rfl) (by rfl) ?_
   iterate 1 (apply aops_step (by decide) rfl; · (intro K hK; simp (disch := first | omega | decide) only [go_sem, f0, act_convI u3 u71, byte_wrap, List.append_assoc, two_one, ← numR_one, cnt_is]; exact hK _))
   apply aops_step (by decide) rfl
   ·intro K hK
    simp (disch := first | omega | decide) only [go_sem, f0, act_call, List.map, byte_wrap, List.append_assoc, two_one, ← numR_one, cnt_is]
    apply mwp_call_r rfl rfl rfl
    ·intro Q hQ
     (simp (disch := first | omega | decide) only [go_sem, f0, peekL, reifyL_nil, reifyL_cons, reify_v, byte_wrap, List.append_assoc, two_one, ← numR_one, cnt_is]; (exact hQ))
    ·exact O.good_refNum 4 p.ep (by omega) (by omega)
    ·simp [-List.map_take, -List.map_drop, -List.map_append, -List.map_replicate, -List.reduceReplicate, noPtrL, noPtr, noPtrL_bsl, noPtrL_map, sub]
    ·rw [resOf_own1 (by (simp (disch := decide) only [mset_ne, hr]; done))]
     exact hK _
   apply aops_step (by decide) rfl
   ·intro K hK
    simp (disch := first | omega | decide) only [go_sem, f0, List.map, byte_wrap, List.append_assoc, two_one, ← numR_one, cnt_is]
    apply mwp_append2 el22 ti5 u22
    case hpk => intro Q hQ; (rw [peek_own (by simp (disch := first | omega | decide) only [go_sem, f0, byte_wrap, List.append_assoc, two_one, ← numR_one, cnt_is]; rfl)]; (try rw [sub_full (by rfl)]); exact hQ)
    case hs' => rfl
    case ho => simp (disch := first | omega | decide) only [go_sem, f0, byte_wrap, List.append_assoc, two_one, ← numR_one, cnt_is]; rfl
    case hsz => rfl
    case hhi => (simp [headB_len, linksB_len, itemsB_len, numR_length, List.length_append]; done)
    case hb => (simp [sub, roomB, headB_len, linksB_len, itemsB_len, numR_length, List.length_append]; done)
    case hy => exact all_cells rfl
    case k => (try simp only [List.nil_append, ← List.map_append, Bool.false_and]); exact hK _
   apply aops_step (by decide) rfl
   ·intro K hK
    simp (disch := first | omega | decide) only [go_sem, f0, byte_wrap, List.append_assoc, two_one, ← numR_one, cnt_is]
    rw [asg_tmp (by simp (disch := first | omega | decide) only [go_sem, f0, byte_wrap, List.append_assoc, two_one, ← numR_one, cnt_is]; rfl)]
    exact hK _
   refine aops_nil ?_
   refine ⟨_, _, rfl, ?_, ?_, ?_, ?_, (by intro i; simp [Mem.set, hr]), (by exact hG)⟩ <;> try simp (disch := first | omega | decide) only [go_sem, f0, byte_wrap, List.append_assoc, two_one, ← numR_one, cnt_is]
   all_goals first | (rw [epB, if_pos hb]; simp [headB, numR_one]; done) | (rw [epB, if_pos hb]; simp [headB, numR_length]; done)
  case hf =>
   intro hb
   try simp only [bo1, bo2, bo3, bo4, bo5, bo6] at hb
   have hbt37 := hb
   refine AW.skip ?_
   refine ⟨_, _, rfl, ?_, ?_, ?_, ?_, (by intro i; simp [Mem.set, hr]), (by exact hG)⟩ <;> try simp (disch := first | omega | decide) only [go_sem, f0, byte_wrap, List.append_assoc, two_one, ← numR_one, cnt_is]
   all_goals first | (rw [epB, if_neg (by omega)]; simp [headB, numR_one]; done) | (rw [epB, if_neg (by omega)]; simp [headB, numR_length]; done)
 ·clear f0 hr hG
  rintro σ ⟨s, m, rfl, f1, o1, f3, o3, hr, hG⟩
  obtain ⟨g1, o1⟩ : ∃ g, m.objs (.tmp 1 0) = (g, .box [.v (i64 p.kind), .v (i64 p.fr), .v (i64 p.boot), .v (i64 p.to), .v (i64 p.tb), .v (i64 p.ep), .v (i64 p.te), .v (.sl 2 p.hn (p.hs.map linkA)), .v (.sl 2 p.xn (p.xs.map linkA)), .v (.sl 3 p.ln (p.ls.map lsaA))]) := ⟨_, Prod.ext rfl o1⟩
  rw [o1] at f1
  obtain ⟨g3, o3⟩ : ∃ g, m.objs (.var 3) = (g, .arr false 1 (bsl (headB p ++ epB p))) := ⟨_, Prod.ext rfl o3⟩
  rw [o3] at f3
  refine AW.join (fun σ => ∃ s m, σ = ⟨137, s, m⟩ ∧ s 1 = .lptr (.tmp 1 0) (m.objs (.tmp 1 0)).1 0 ∧ (m.objs (.tmp 1 0)).2 = .box [.v (i64 p.kind), .v (i64 p.fr), .v (i64 p.boot), .v (i64 p.to), .v (i64 p.tb), .v (i64 p.ep), .v (i64 p.te), .v (.sl 2 p.hn (p.hs.map linkA)), .v (.sl 2 p.xn (p.xs.map linkA)), .v (.sl 3 p.ln (p.ls.map lsaA))] ∧ s 3 = .own (.var 3) (m.objs (.var 3)).1 0 ((topB p).length) ∧ (m.objs (.var 3)).2 = .arr false 1 (bsl (topB p)) ∧ (∀ i, (m.objs (.res i)).2 = .dead) ∧ m.G = []) ?_ ?_
  ·skip
   refine AW.sr (cfg := cfg) ?_
   refine aops_fl (by decide) (by decide) fo28_0 ti3 (by simp only [go_sem, f1, f3, o1, o3, byte_wrap, List.append_assoc, two_one, ← numR_one, cnt_is]; rfl) (by simp only [go_sem, f1, f3, o1, o3, byte_wrap, List.append_assoc, two_one, ← numR_one, cnt_is]; rfl) (by rfl) ?_
   iterate 1 (apply aops_step (by decide) rfl; · (intro K hK; simp (disch := first | omega | decide) only [go_sem, f1, f3, o1, o3, byte_wrap, List.append_assoc, two_one, ← numR_one, cnt_is]; exact hK _))
   refine aops_nil ?_
   apply AW.cond
   ·(simp only [go_sem, f1, f3, o1, o3, byte_wrap, List.append_assoc, two_one, ← numR_one, cnt_is]; rfl)
   case ht =>
    intro hb
    try simp only [bo1, bo2, bo3, bo4, bo5, bo6] at hb
    have hbt46 := hb
    refine AW.region (cfg := cfg) ?_
    iterate 1 (apply aops_step (by decide) rfl; · (intro K hK; simp (disch := first | omega | decide) only [go_sem, f1, f3, o1, o3, byte_wrap, List.append_assoc, two_one, ← numR_one, cnt_is]; exact hK _))
    refine aops_fl (by decide) (by decide) fo28_6 ti3 (by simp (disch := first | omega | decide) only [go_sem, f1, f3, o1, o3, byte_wrap, List.append_assoc, two_one, ← numR_one, cnt_is]; rfl) (by simp (disch := first | omega | decide) only [go_sem, f1, f3, o1, o3, byte_wrap, List.append_assoc, two_one, ← numR_one, cnt_is]; rfl) (by rfl) ?_
    iterate 1 (apply aops_step (by decide) rfl; · (intro K hK; simp (disch := first | omega | decide) only [go_sem, f1, f3, o1, o3, act_convI u3 u71, byte_wrap, List.append_assoc, two_one, ← numR_one, cnt_is]; exact hK _))
    apply aops_step (by decide) rfl
    ·intro K hK
     simp (disch := first | omega | decide) only [go_sem, f1, f3, o1, o3, act_call, List.map, byte_wrap, List.append_assoc, two_one, ← numR_one, cnt_is]
     apply mwp_call_r rfl rfl rfl
     ·intro Q hQ
      (simp (disch := first | omega | decide) only [go_sem, f1, f3, o1, o3, peekL, reifyL_nil, reifyL_cons, reify_v, byte_wrap, List.append_assoc, two_one, ← numR_one, cnt_is]; (exact hQ))
     ·exact O.good_refNum 4 p.te (by omega) (by omega)
     ·simp [-List.map_take, -List.map_drop, -List.map_append, -List.map_replicate, -List.reduceReplicate, noPtrL, noPtr, noPtrL_bsl, noPtrL_map, sub]
     ·rw [resOf_own1 (by (simp (disch := decide) only [mset_ne, hr]; done))]
      exact hK _
    apply aops_step (by decide) rfl
    ·intro K hK
     simp (disch := first | omega | decide) only [go_sem, f1, f3, o1, o3, List.map, byte_wrap, List.append_assoc, two_one, ← numR_one, cnt_is]
     apply mwp_append2 el22 ti5 u22
     case hpk => intro Q hQ; (rw [peek_own (by simp (disch := first | omega | decide) only [go_sem, f1, f3, o1, o3, byte_wrap, List.append_assoc, two_one, ← numR_one, cnt_is]; rfl)]; (try rw [sub_full (by rfl)]); exact hQ)
     case hs' => rfl
     case ho => simp (disch := first | omega | decide) only [go_sem, f1, f3, o1, o3, byte_wrap, List.append_assoc, two_one, ← numR_one, cnt_is]; rfl
     case hsz => rfl
     case hhi => (simp [headB_len, linksB_len, itemsB_len, numR_length, List.length_append]; done)
     case hb => (simp [sub, roomB, headB_len, linksB_len, itemsB_len, numR_length, List.length_append]; omega)
     case hy => exact all_cells rfl
     case k => (try simp only [List.nil_append, ← List.map_append, Bool.false_and]); exact hK _
    apply aops_step (by decide) rfl
    ·intro K hK
     simp (disch := first | omega | decide) only [go_sem, f1, f3, o1, o3, byte_wrap, List.append_assoc, two_one, ← numR_one, cnt_is]
     rw [asg_tmp (by simp (disch := first | omega | decide) only [go_sem, f1, f3, o1, o3, byte_wrap, List.append_assoc, two_one, ← numR_one, cnt_is]; rfl)]
     exact hK _
    refine aops_nil ?_
    refine ⟨_, _, rfl, ?_, ?_, ?_, ?_, (by intro i; simp [Mem.set, hr]), (by exact hG)⟩ <;> try simp (disch := first | omega | decide) only [go_sem, f1, f3, o1, o3, byte_wrap, List.append_assoc, two_one, ← numR_one, cnt_is]
    all_goals first | (rw [topB, teB, cnB, if_pos hb, if_pos hb]; simp; done) | (rw [topB, teB, cnB, if_pos hb, if_pos hb]; simp [numR_length]; omega)
   case hf =>
    intro hb
    try simp only [bo1, bo2, bo3, bo4, bo5, bo6] at hb
    have hbt46 := hb
    refine AW.region (cfg := cfg) ?_
    iterate 1 (apply aops_step (by decide) rfl; · (intro K hK; simp (disch := first | omega | decide) only [go_sem, f1, f3, o1, o3, byte_wrap, List.append_assoc, two_one, ← numR_one, cnt_is]; exact hK _))
    refine aops_fl (by decide) (by decide) fo28_7 ti24 (by simp (disch := first | omega | decide) only [go_sem, f1, f3, o1, o3, byte_wrap, List.append_assoc, two_one, ← numR_one, cnt_is]; rfl) (by simp (disch := first | omega | decide) only [go_sem, f1, f3, o1, o3, byte_wrap, List.append_assoc, two_one, ← numR_one, cnt_is]; rfl) (by rfl) ?_
    iterate 1 (apply aops_step (by decide) rfl; · (intro K hK; simp (disch := first | omega | decide) only [go_sem, f1, f3, o1, o3, List.map, List.length_map, aops_len u24, byte_wrap, List.append_assoc, two_one, ← numR_one, cnt_is]; exact hK _))
    refine aops_fl (by decide) (by decide) fo28_8 ti25 (by simp (disch := first | omega | decide) only [go_sem, f1, f3, o1, o3, byte_wrap, List.append_assoc, two_one, ← numR_one, cnt_is]; rfl) (by simp (disch := first | omega | decide) only [go_sem, f1, f3, o1, o3, byte_wrap, List.append_assoc, two_one, ← numR_one, cnt_is]; rfl) (by rfl) ?_
    iterate 2 (apply aops_step (by decide) rfl; · (intro K hK; simp (disch := first | omega | decide) only [go_sem, f1, f3, o1, o3, List.map, List.length_map, aops_len u25, byte_wrap, List.append_assoc, two_one, ← numR_one, cnt_is]; exact hK _))
    refine aops_fl (by decide) (by decide) fo28_9 ti26 (by simp (disch := first | omega | decide) only [go_sem, f1, f3, o1, o3, byte_wrap, List.append_assoc, two_one, ← numR_one, cnt_is]; rfl) (by simp (disch := first | omega | decide) only [go_sem, f1, f3, o1, o3, byte_wrap, List.append_assoc, two_one, ← numR_one, cnt_is]; rfl) (by rfl) ?_
    iterate 3 (apply aops_step (by decide) rfl; · (intro K hK; simp (disch := first | omega | decide) only [go_sem, f1, f3, o1, o3, List.map, List.length_map, aops_len u26, act_convI u3 u5, byte_wrap, List.append_assoc, two_one, ← numR_one, cnt_is]; exact hK _))
    apply aops_step (by decide) rfl
    ·intro K hK
     rw [act_bs el22 ti5]
     (simp [-List.map_take, -List.map_drop, -BitVec.toNat_ofInt, -BitVec.ofInt_natCast, -BitVec.toNat_setWidth, -BitVec.toNat_ushiftRight, -BitVec.toNat_umod, -BitVec.toNat_udiv, go_sem, elems_v, cellishAV, Value.oneCell', isAggAV, partsOf, TI.z, TI.mk1, f1, f3, o1, o3]; exact hK _)
    apply aops_step (by decide) rfl
    ·intro K hK
     simp (disch := first | omega | decide) only [go_sem, f1, f3, o1, o3, List.map, byte_wrap, List.append_assoc, two_one, ← numR_one, cnt_is]
     apply mwp_append2 el22 ti5 u22
     case hpk => intro Q hQ; (rw [peek_own (by simp (disch := first | omega | decide) only [go_sem, f1, f3, o1, o3, byte_wrap, List.append_assoc, two_one, ← numR_one, cnt_is]; rfl)]; (try rw [sub_full (by rfl)]); exact hQ)
     case hs' => rfl
     case ho => simp (disch := first | omega | decide) only [go_sem, f1, f3, o1, o3, byte_wrap, List.append_assoc, two_one, ← numR_one, cnt_is]; rfl
     case hsz => rfl
     case hhi => (simp [headB_len, linksB_len, itemsB_len, numR_length, List.length_append]; done)
     case hb => (simp [sub, roomB, headB_len, linksB_len, itemsB_len, numR_length, List.length_append]; omega)
     case hy => exact all_cells rfl
     case k => (try simp only [List.nil_append, ← List.map_append, Bool.false_and]); exact hK _
    apply aops_step (by decide) rfl
    ·intro K hK
     simp (disch := first | omega | decide) only [go_sem, f1, f3, o1, o3, byte_wrap, List.append_assoc, two_one, ← numR_one, cnt_is]
     rw [asg_tmp (by simp (disch := first | omega | decide) only [go_sem, f1, f3, o1, o3, byte_wrap, List.append_assoc, two_one, ← numR_one, cnt_is]; rfl)]
     exact hK _
    refine aops_nil ?_
    refine ⟨_, _, rfl, ?_, ?_, ?_, ?_, (by intro i; simp [Mem.set, hr]), (by exact hG)⟩ <;> try simp (disch := first | omega | decide) only [go_sem, f1, f3, o1, o3, byte_wrap, List.append_assoc, two_one, ← numR_one, cnt_is]
    all_goals first | (rw [topB, teB, cnB, if_neg hb, if_neg hb]; simp [numR_one]; done) | (rw [topB, teB, cnB, if_neg hb, if_neg hb]; simp [numR_length]; omega)
  ·clear f1 f3 o1 o3 hr hG
   rintro σ ⟨s, m, rfl, f1, o1, f3, o3, hr, hG⟩
   obtain ⟨g1, o1⟩ : ∃ g, m.objs (.tmp 1 0) = (g, .box [.v (i64 p.kind), .v (i64 p.fr), .v (i64 p.boot), .v (i64 p.to), .v (i64 p.tb), .v (i64 p.ep), .v (i64 p.te), .v (.sl 2 p.hn (p.hs.map linkA)), .v (.sl 2 p.xn (p.xs.map linkA)), .v (.sl 3 p.ln (p.ls.map lsaA))]) := ⟨_, Prod.ext rfl o1⟩
   rw [o1] at f1
   obtain ⟨g3, o3⟩ : ∃ g, m.objs (.var 3) = (g, .arr false 1 (bsl (topB p))) := ⟨_, Prod.ext rfl o3⟩
   rw [o3] at f3
   refine AW.seq ?_
   refine AW.sr (cfg := cfg) ?_
   iterate 1 (apply aops_step (by decide) rfl; · (intro K hK; simp (disch := first | omega | decide) only [go_sem, f1, f3, o1, o3, byte_wrap, List.append_assoc, two_one, ← numR_one, cnt_is]; exact hK _))
   refine aops_nil ?_
   refine AW.block ?_
   refine AW.forN (fun k σ => ∃ s m, σ = ⟨137, s, m⟩ ∧ s 1 = .lptr (.tmp 1 0) (m.objs (.tmp 1 0)).1 0 ∧ (m.objs (.tmp 1 0)).2 = .box [.v (i64 p.kind), .v (i64 p.fr), .v (i64 p.boot), .v (i64 p.to), .v (i64 p.tb), .v (i64 p.ep), .v (i64 p.te), .v (.sl 2 p.hn (p.hs.map linkA)), .v (.sl 2 p.xn (p.xs.map linkA)), .v (.sl 3 p.ln (p.ls.map lsaA))] ∧ s 3 = .own (.var 3) (m.objs (.var 3)).1 0 ((topB p).length + 5 * k) ∧ (m.objs (.var 3)).2 = .arr false 1 (bsl (topB p ++ linksB (p.hs.take k))) ∧ s 4 = .v (i64 (k : Int)) ∧ (∀ i, (m.objs (.res i)).2 = .dead) ∧ m.G = []) (p.hs.length) ?_ ?_ ?_
   ·refine ⟨_, _, rfl, ?_, ?_, ?_, ?_, ?_, (by intro i; simp [Mem.set, hr]), (by exact hG)⟩ <;> try simp (disch := first | omega | decide) only [go_sem, f1, f3, o1, o3, byte_wrap, List.append_assoc, two_one, ← numR_one, cnt_is]
    all_goals first | rfl | (simp [linksB]; done)
   ·clear f1 f3 o1 o3 hr hG
    rintro k σ hk ⟨s, m, rfl, f1, o1, f3, o3, f4, hr, hG⟩
    obtain ⟨g1, o1⟩ : ∃ g, m.objs (.tmp 1 0) = (g, .box [.v (i64 p.kind), .v (i64 p.fr), .v (i64 p.boot), .v (i64 p.to), .v (i64 p.tb), .v (i64 p.ep), .v (i64 p.te), .v (.sl 2 p.hn (p.hs.map linkA)), .v (.sl 2 p.xn (p.xs.map linkA)), .v (.sl 3 p.ln (p.ls.map lsaA))]) := ⟨_, Prod.ext rfl o1⟩
    rw [o1] at f1
    obtain ⟨g3, o3⟩ : ∃ g, m.objs (.var 3) = (g, .arr false 1 (bsl (topB p ++ linksB (p.hs.take k)))) := ⟨_, Prod.ext rfl o3⟩
    rw [o3] at f3
    refine AW.seq ?_
    refine AW.sr (cfg := cfg) ?_
    iterate 1 (apply aops_step (by decide) rfl; · (intro K hK; simp (disch := first | omega | decide) only [go_sem, f1, f3, f4, o1, o3, byte_wrap, List.append_assoc, two_one, ← numR_one, cnt_is]; exact hK _))
    refine aops_fl (by decide) (by decide) fo28_7 ti24 (by simp (disch := first | omega | decide) only [go_sem, f1, f3, f4, o1, o3, byte_wrap, List.append_assoc, two_one, ← numR_one, cnt_is]; rfl) (by simp (disch := first | omega | decide) only [go_sem, f1, f3, f4, o1, o3, byte_wrap, List.append_assoc, two_one, ← numR_one, cnt_is]; rfl) (by rfl) ?_
    iterate 2 (apply aops_step (by decide) rfl; · (intro K hK; simp (disch := first | omega | decide) only [go_sem, f1, f3, f4, o1, o3, List.map, List.length_map, aops_len u24, byte_wrap, List.append_assoc, two_one, ← numR_one, cnt_is]; exact hK _))
    refine aops_nil ?_
    apply AW.cond
    ·(simp only [go_sem, f1, f3, f4, o1, o3, byte_wrap, List.append_assoc, two_one, ← numR_one, cnt_is]; rfl)
    case hf => intro hb; (simp at hb; omega)
    case ht =>
    intro hb
    have hbt72 := hb
    refine AW.skip ?_
    refine AW.seq ?_
    refine AW.block ?_
    have hb1 := d6 _ (List.getElem_mem hk)
    refine AW.draw (cfg := cfg) (by kernel_rfl) (by kernel_rfl) (by kernel_rfl) ?_
    iterate 1 (apply adraw_step rfl; · (intro K hK; simp (disch := first | omega | decide) only [go_sem, f1, f3, f4, o1, o3, byte_wrap, List.append_assoc, two_one, ← numR_one, cnt_is]; exact hK))
    apply adraw_step rfl
    ·intro K hK
     simp (disch := first | omega | decide) only [go_sem, f1, f3, f4, o1, o3, act_fieldAddr_t fo28_7, List.map, byte_wrap, List.append_assoc, two_one, ← numR_one, cnt_is]
     rw [mwp_fieldAddr_b (by simp only [go_sem, f1, f3, f4, o1, o3, byte_wrap, List.append_assoc, two_one, ← numR_one, cnt_is]; rfl)]
     exact hK
    apply adraw_step rfl
    ·intro K hK
     simp (disch := first | omega | decide) only [go_sem, f1, f3, f4, o1, o3, act_load_t ti24, List.map, byte_wrap, List.append_assoc, two_one, ← numR_one, cnt_is]
     rw [mwp_load_b1 (by simp only [go_sem, f1, f3, f4, o1, o3, byte_wrap, List.append_assoc, two_one, ← numR_one, cnt_is]; rfl) (by rfl)]
     exact hK
    iterate 1 (apply adraw_step rfl; · (intro K hK; simp (disch := first | omega | decide) only [go_sem, f1, f3, f4, o1, o3, byte_wrap, List.append_assoc, two_one, ← numR_one, cnt_is]; exact hK))
    apply adraw_step rfl
    ·intro K hK
     simp (disch := first | omega | decide) only [go_sem, f1, f3, f4, o1, o3, act_indexAddr_s u24 ti74, List.map, byte_wrap, List.append_assoc, two_one, ← numR_one, cnt_is]
     skip
     exact hK
    apply adraw_step rfl
    ·intro K hK
     simp (disch := first | omega | decide) only [go_sem, f1, f3, f4, o1, o3, act_fieldAddr_t fo74_0, List.map, byte_wrap, List.append_assoc, two_one, ← numR_one, cnt_is]
     skip
     exact hK
    apply adraw_step rfl
    ·intro K hK
     simp (disch := first | omega | decide) only [go_sem, f1, f3, f4, o1, o3, act_load_t ti3, List.map, byte_wrap, List.append_assoc, two_one, ← numR_one, cnt_is]
     rw [mwp_load_i1 (by rfl)]
     exact hK
    iterate 1 (apply adraw_step rfl; · (intro K hK; simp (disch := first | omega | decide) only [go_sem, f1, f3, f4, o1, o3, act_convI u3 u5, byte_wrap, List.append_assoc, two_one, ← numR_one, cnt_is]; exact hK))
    apply adraw_step rfl
    ·intro K hK
     rw [act_bs el22 ti5]
     (simp [-List.map_take, -List.map_drop, -BitVec.toNat_ofInt, -BitVec.ofInt_natCast, -BitVec.toNat_setWidth, -BitVec.toNat_ushiftRight, -BitVec.toNat_umod, -BitVec.toNat_udiv, go_sem, elems_v, cellishAV, Value.oneCell', isAggAV, partsOf, TI.z, TI.mk1, f1, f3, f4, o1, o3]; exact hK)
    apply adraw_step rfl
    ·intro K hK
     simp (disch := first | omega | decide) only [go_sem, f1, f3, f4, o1, o3, List.map, byte_wrap, List.append_assoc, two_one, ← numR_one, cnt_is]
     apply mwp_append2 el22 ti5 u22
     case hpk => intro Q hQ; (rw [peek_own (by simp (disch := first | omega | decide) only [go_sem, f1, f3, f4, o1, o3, byte_wrap, List.append_assoc, two_one, ← numR_one, cnt_is]; rfl)]; (try rw [sub_full (by rfl)]); exact hQ)
     case hs' => rfl
     case ho => simp (disch := first | omega | decide) only [go_sem, f1, f3, f4, o1, o3, byte_wrap, List.append_assoc, two_one, ← numR_one, cnt_is]; rfl
     case hsz => rfl
     case hhi => (simp [headB_len, linksB_len, itemsB_len, numR_length, List.length_append]; omega)
     case hb => (simp only [List.length_cons, List.length_nil, List.length_map, Nat.zero_add, Nat.reduceAdd, roomB]; omega)
     case hy => exact all_cells rfl
     case k => (try simp only [List.nil_append, ← List.map_append, Bool.false_and]); exact hK
    apply adraw_step rfl
    ·intro K hK
     simp (disch := first | omega | decide) only [go_sem, f1, f3, f4, o1, o3, act_fieldAddr_t fo28_7, List.map, byte_wrap, List.append_assoc, two_one, ← numR_one, cnt_is]
     rw [mwp_fieldAddr_b (by simp (disch := first | omega | decide) only [go_sem, f1, f3, f4, o1, o3, byte_wrap, List.append_assoc, two_one, ← numR_one, cnt_is]; rfl)]
     exact hK
    apply adraw_step rfl
    ·intro K hK
     simp (disch := first | omega | decide) only [go_sem, f1, f3, f4, o1, o3, act_load_t ti24, List.map, byte_wrap, List.append_assoc, two_one, ← numR_one, cnt_is]
     rw [mwp_load_b1 (by simp (disch := first | omega | decide) only [go_sem, f1, f3, f4, o1, o3, byte_wrap, List.append_assoc, two_one, ← numR_one, cnt_is]; rfl) (by rfl)]
     exact hK
    iterate 1 (apply adraw_step rfl; · (intro K hK; simp (disch := first | omega | decide) only [go_sem, f1, f3, f4, o1, o3, byte_wrap, List.append_assoc, two_one, ← numR_one, cnt_is]; exact hK))
    apply adraw_step rfl
    ·intro K hK
     simp (disch := first | omega | decide) only [go_sem, f1, f3, f4, o1, o3, act_indexAddr_s u24 ti74, List.map, byte_wrap, List.append_assoc, two_one, ← numR_one, cnt_is]
     skip
     exact hK
    apply adraw_step rfl
    ·intro K hK
     simp (disch := first | omega | decide) only [go_sem, f1, f3, f4, o1, o3, act_fieldAddr_t fo74_1, List.map, byte_wrap, List.append_assoc, two_one, ← numR_one, cnt_is]
     skip
     exact hK
    apply adraw_step rfl
    ·intro K hK
     simp (disch := first | omega | decide) only [go_sem, f1, f3, f4, o1, o3, act_load_t ti3, List.map, byte_wrap, List.append_assoc, two_one, ← numR_one, cnt_is]
     rw [mwp_load_i1 (by rfl)]
     exact hK
    iterate 1 (apply adraw_step rfl; · (intro K hK; simp (disch := first | omega | decide) only [go_sem, f1, f3, f4, o1, o3, act_convI u3 u71, byte_wrap, List.append_assoc, two_one, ← numR_one, cnt_is]; exact hK))
    apply adraw_step rfl
    ·intro K hK
     simp (disch := first | omega | decide) only [go_sem, f1, f3, f4, o1, o3, act_call, List.map, byte_wrap, List.append_assoc, two_one, ← numR_one, cnt_is]
     apply mwp_call_r rfl rfl rfl
     ·intro Q hQ
      (simp (disch := first | omega | decide) only [go_sem, f1, f3, f4, o1, o3, peekL, reifyL_nil, reifyL_cons, reify_v, byte_wrap, List.append_assoc, two_one, ← numR_one, cnt_is]; (exact hQ))
     ·exact O.good_refNum 4 (p.hs[k]).co (by omega) (by omega)
     ·simp [-List.map_take, -List.map_drop, -List.map_append, -List.map_replicate, -List.reduceReplicate, noPtrL, noPtr, noPtrL_bsl, noPtrL_map, sub]
     ·rw [resOf_own1 (by (simp (disch := decide) only [mset_ne, hr]; done))]
      exact hK
    apply adraw_step rfl
    ·intro K hK
     simp (disch := first | omega | decide) only [go_sem, f1, f3, f4, o1, o3, List.map, byte_wrap, List.append_assoc, two_one, ← numR_one, cnt_is]
     apply mwp_append2 el22 ti5 u22
     case hpk => intro Q hQ; (rw [peek_own (by simp (disch := first | omega | decide) only [go_sem, f1, f3, f4, o1, o3, byte_wrap, List.append_assoc, two_one, ← numR_one, cnt_is]; rfl)]; (try rw [sub_full (by rfl)]); exact hQ)
     case hs' => rfl
     case ho => simp (disch := first | omega | decide) only [go_sem, f1, f3, f4, o1, o3, byte_wrap, List.append_assoc, two_one, ← numR_one, cnt_is]; rfl
     case hsz => rfl
     case hhi => (simp [headB_len, linksB_len, itemsB_len, numR_length, List.length_append]; omega)
     case hb => (simp [sub, roomB, headB_len, linksB_len, itemsB_len, numR_length, List.length_append]; omega)
     case hy => exact all_cells rfl
     case k => (try simp only [List.nil_append, ← List.map_append, Bool.false_and]); exact hK
    apply adraw_step rfl
    ·intro K hK
     simp (disch := first | omega | decide) only [go_sem, f1, f3, f4, o1, o3, byte_wrap, List.append_assoc, two_one, ← numR_one, cnt_is]
     rw [asg_tmp (by simp (disch := first | omega | decide) only [go_sem, f1, f3, f4, o1, o3, byte_wrap, List.append_assoc, two_one, ← numR_one, cnt_is]; rfl)]
     exact hK
    refine adraw_nil (by kernel_rfl) ?_
    refine AW.region (cfg := cfg) ?_
    iterate 3 (apply aops_step (by decide) rfl; · (intro K hK; simp (disch := first | omega | decide) only [go_sem, f1, f3, f4, o1, o3, byte_wrap, List.append_assoc, two_one, ← numR_one, cnt_is]; exact hK _))
    refine aops_nil ?_
    refine ⟨_, _, rfl, ?_, ?_, ?_, ?_, ?_, (by intro i; simp [Mem.set, hr]), (by exact hG)⟩ <;> try simp (disch := first | omega | decide) only [go_sem, f1, f3, f4, o1, o3, byte_wrap, List.append_assoc, two_one, ← numR_one, cnt_is]
    all_goals first | rfl | (rw [linksB_take hk]; simp [linkB, numR_one]; done)
   ·clear f1 f3 o1 o3 hr hG
    rintro σ ⟨s, m, rfl, f1, o1, f3, o3, f4, hr, hG⟩
    obtain ⟨g1, o1⟩ : ∃ g, m.objs (.tmp 1 0) = (g, .box [.v (i64 p.kind), .v (i64 p.fr), .v (i64 p.boot), .v (i64 p.to), .v (i64 p.tb), .v (i64 p.ep), .v (i64 p.te), .v (.sl 2 p.hn (p.hs.map linkA)), .v (.sl 2 p.xn (p.xs.map linkA)), .v (.sl 3 p.ln (p.ls.map lsaA))]) := ⟨_, Prod.ext rfl o1⟩
    rw [o1] at f1
    obtain ⟨g3, o3⟩ : ∃ g, m.objs (.var 3) = (g, .arr false 1 (bsl (topB p ++ linksB (p.hs.take p.hs.length)))) := ⟨_, Prod.ext rfl o3⟩
    rw [o3] at f3
    refine AW.seq ?_
    refine AW.sr (cfg := cfg) ?_
    iterate 1 (apply aops_step (by decide) rfl; · (intro K hK; simp (disch := first | omega | decide) only [go_sem, f1, f3, f4, o1, o3, byte_wrap, List.append_assoc, two_one, ← numR_one, cnt_is]; exact hK _))
    refine aops_fl (by decide) (by decide) fo28_7 ti24 (by simp (disch := first | omega | decide) only [go_sem, f1, f3, f4, o1, o3, byte_wrap, List.append_assoc, two_one, ← numR_one, cnt_is]; rfl) (by simp (disch := first | omega | decide) only [go_sem, f1, f3, f4, o1, o3, byte_wrap, List.append_assoc, two_one, ← numR_one, cnt_is]; rfl) (by rfl) ?_
    iterate 2 (apply aops_step (by decide) rfl; · (intro K hK; simp (disch := first | omega | decide) only [go_sem, f1, f3, f4, o1, o3, List.map, List.length_map, aops_len u24, byte_wrap, List.append_assoc, two_one, ← numR_one, cnt_is]; exact hK _))
    refine aops_nil ?_
    apply AW.cond
    ·(simp only [go_sem, f1, f3, f4, o1, o3, byte_wrap, List.append_assoc, two_one, ← numR_one, cnt_is]; rfl)
    case ht => intro hb; (simp at hb; done)
    case hf =>
    intro hb
    have hbt72 := hb
    refine AW.exit ?_
    refine AW.seq ?_
    refine AW.sr (cfg := cfg) ?_
    iterate 1 (apply aops_step (by decide) rfl; · (intro K hK; simp (disch := first | omega | decide) only [go_sem, f1, f3, f4, o1, o3, byte_wrap, List.append_assoc, two_one, ← numR_one, cnt_is]; exact hK _))
    refine aops_nil ?_
    refine AW.block ?_
    refine AW.forN (fun k σ => ∃ s m, σ = ⟨137, s, m⟩ ∧ s 1 = .lptr (.tmp 1 0) (m.objs (.tmp 1 0)).1 0 ∧ (m.objs (.tmp 1 0)).2 = .box [.v (i64 p.kind), .v (i64 p.fr), .v (i64 p.boot), .v (i64 p.to), .v (i64 p.tb), .v (i64 p.ep), .v (i64 p.te), .v (.sl 2 p.hn (p.hs.map linkA)), .v (.sl 2 p.xn (p.xs.map linkA)), .v (.sl 3 p.ln (p.ls.map lsaA))] ∧ s 3 = .own (.var 3) (m.objs (.var 3)).1 0 ((topB p).length + 5 * p.hs.length + 9 * k) ∧ (m.objs (.var 3)).2 = .arr false 1 (bsl (topB p ++ (linksB p.hs ++ itemsB (p.xs.take k)))) ∧ s 5 = .v (i64 (k : Int)) ∧ (∀ i, (m.objs (.res i)).2 = .dead) ∧ m.G = []) (p.xs.length) ?_ ?_ ?_
    ·refine ⟨_, _, rfl, ?_, ?_, ?_, ?_, ?_, (by intro i; simp [Mem.set, hr]), (by exact hG)⟩ <;> try simp (disch := first | omega | decide) only [go_sem, f1, f3, f4, o1, o3, byte_wrap, List.append_assoc, two_one, ← numR_one, cnt_is]
     all_goals first | rfl | (simp [itemsB]; done)
    ·clear f1 f3 f4 o1 o3 hr hG
     rintro k σ hk ⟨s, m, rfl, f1, o1, f3, o3, f5, hr, hG⟩
     obtain ⟨g1, o1⟩ : ∃ g, m.objs (.tmp 1 0) = (g, .box [.v (i64 p.kind), .v (i64 p.fr), .v (i64 p.boot), .v (i64 p.to), .v (i64 p.tb), .v (i64 p.ep), .v (i64 p.te), .v (.sl 2 p.hn (p.hs.map linkA)), .v (.sl 2 p.xn (p.xs.map linkA)), .v (.sl 3 p.ln (p.ls.map lsaA))]) := ⟨_, Prod.ext rfl o1⟩
     rw [o1] at f1
     obtain ⟨g3, o3⟩ : ∃ g, m.objs (.var 3) = (g, .arr false 1 (bsl (topB p ++ (linksB p.hs ++ itemsB (p.xs.take k))))) := ⟨_, Prod.ext rfl o3⟩
     rw [o3] at f3
     refine AW.seq ?_
     refine AW.sr (cfg := cfg) ?_
     iterate 1 (apply aops_step (by decide) rfl; · (intro K hK; simp (disch := first | omega | decide) only [go_sem, f1, f3, f5, o1, o3, byte_wrap, List.append_assoc, two_one, ← numR_one, cnt_is]; exact hK _))
     refine aops_fl (by decide) (by decide) fo28_8 ti25 (by simp (disch := first | omega | decide) only [go_sem, f1, f3, f5, o1, o3, byte_wrap, List.append_assoc, two_one, ← numR_one, cnt_is]; rfl) (by simp (disch := first | omega | decide) only [go_sem, f1, f3, f5, o1, o3, byte_wrap, List.append_assoc, two_one, ← numR_one, cnt_is]; rfl) (by rfl) ?_
     iterate 2 (apply aops_step (by decide) rfl; · (intro K hK; simp (disch := first | omega | decide) only [go_sem, f1, f3, f5, o1, o3, List.map, List.length_map, aops_len u25, byte_wrap, List.append_assoc, two_one, ← numR_one, cnt_is]; exact hK _))
     refine aops_nil ?_
     apply AW.cond
     ·(simp only [go_sem, f1, f3, f5, o1, o3, byte_wrap, List.append_assoc, two_one, ← numR_one, cnt_is]; rfl)
     case hf => intro hb; (simp at hb; omega)
     case ht =>
     intro hb
     have hbt98 := hb
     refine AW.skip ?_
     refine AW.seq ?_
     refine AW.block ?_
     have hb1 := d7 _ (List.getElem_mem hk)
     refine AW.draw (cfg := cfg) (by kernel_rfl) (by kernel_rfl) (by kernel_rfl) ?_
     iterate 1 (apply adraw_step rfl; · (intro K hK; simp (disch := first | omega | decide) only [go_sem, f1, f3, f5, o1, o3, byte_wrap, List.append_assoc, two_one, ← numR_one, cnt_is]; exact hK))
     apply adraw_step rfl
     ·intro K hK
      simp (disch := first | omega | decide) only [go_sem, f1, f3, f5, o1, o3, act_fieldAddr_t fo28_8, List.map, byte_wrap, List.append_assoc, two_one, ← numR_one, cnt_is]
      rw [mwp_fieldAddr_b (by simp only [go_sem, f1, f3, f5, o1, o3, byte_wrap, List.append_assoc, two_one, ← numR_one, cnt_is]; rfl)]
      exact hK
     apply adraw_step rfl
     ·intro K hK
      simp (disch := first | omega | decide) only [go_sem, f1, f3, f5, o1, o3, act_load_t ti25, List.map, byte_wrap, List.append_assoc, two_one, ← numR_one, cnt_is]
      rw [mwp_load_b1 (by simp only [go_sem, f1, f3, f5, o1, o3, byte_wrap, List.append_assoc, two_one, ← numR_one, cnt_is]; rfl) (by rfl)]
      exact hK
     iterate 1 (apply adraw_step rfl; · (intro K hK; simp (disch := first | omega | decide) only [go_sem, f1, f3, f5, o1, o3, byte_wrap, List.append_assoc, two_one, ← numR_one, cnt_is]; exact hK))
     apply adraw_step rfl
     ·intro K hK
      simp (disch := first | omega | decide) only [go_sem, f1, f3, f5, o1, o3, act_indexAddr_s u25 ti76, List.map, byte_wrap, List.append_assoc, two_one, ← numR_one, cnt_is]
      skip
      exact hK
     apply adraw_step rfl
     ·intro K hK
      simp (disch := first | omega | decide) only [go_sem, f1, f3, f5, o1, o3, act_fieldAddr_t fo76_0, List.map, byte_wrap, List.append_assoc, two_one, ← numR_one, cnt_is]
      skip
      exact hK
     apply adraw_step rfl
     ·intro K hK
      simp (disch := first | omega | decide) only [go_sem, f1, f3, f5, o1, o3, act_load_t ti3, List.map, byte_wrap, List.append_assoc, two_one, ← numR_one, cnt_is]
      rw [mwp_load_i1 (by rfl)]
      exact hK
     iterate 1 (apply adraw_step rfl; · (intro K hK; simp (disch := first | omega | decide) only [go_sem, f1, f3, f5, o1, o3, act_convI u3 u5, byte_wrap, List.append_assoc, two_one, ← numR_one, cnt_is]; exact hK))
     apply adraw_step rfl
     ·intro K hK
      rw [act_bs el22 ti5]
      (simp [-List.map_take, -List.map_drop, -BitVec.toNat_ofInt, -BitVec.ofInt_natCast, -BitVec.toNat_setWidth, -BitVec.toNat_ushiftRight, -BitVec.toNat_umod, -BitVec.toNat_udiv, go_sem, elems_v, cellishAV, Value.oneCell', isAggAV, partsOf, TI.z, TI.mk1, f1, f3, f5, o1, o3]; exact hK)
     apply adraw_step rfl
     ·intro K hK
      simp (disch := first | omega | decide) only [go_sem, f1, f3, f5, o1, o3, List.map, byte_wrap, List.append_assoc, two_one, ← numR_one, cnt_is]
      apply mwp_append2 el22 ti5 u22
      case hpk => intro Q hQ; (rw [peek_own (by simp (disch := first | omega | decide) only [go_sem, f1, f3, f5, o1, o3, byte_wrap, List.append_assoc, two_one, ← numR_one, cnt_is]; rfl)]; (try rw [sub_full (by rfl)]); exact hQ)
      case hs' => rfl
      case ho => simp (disch := first | omega | decide) only [go_sem, f1, f3, f5, o1, o3, byte_wrap, List.append_assoc, two_one, ← numR_one, cnt_is]; rfl
      case hsz => rfl
      case hhi => (simp [headB_len, linksB_len, itemsB_len, numR_length, List.length_append]; omega)
      case hb => (simp only [List.length_cons, List.length_nil, List.length_map, Nat.zero_add, Nat.reduceAdd, roomB]; omega)
      case hy => exact all_cells rfl
      case k => (try simp only [List.nil_append, ← List.map_append, Bool.false_and]); exact hK
     apply adraw_step rfl
     ·intro K hK
      simp (disch := first | omega | decide) only [go_sem, f1, f3, f5, o1, o3, act_fieldAddr_t fo28_8, List.map, byte_wrap, List.append_assoc, two_one, ← numR_one, cnt_is]
      rw [mwp_fieldAddr_b (by simp (disch := first | omega | decide) only [go_sem, f1, f3, f5, o1, o3, byte_wrap, List.append_assoc, two_one, ← numR_one, cnt_is]; rfl)]
      exact hK
     apply adraw_step rfl
     ·intro K hK
      simp (disch := first | omega | decide) only [go_sem, f1, f3, f5, o1, o3, act_load_t ti25, List.map, byte_wrap, List.append_assoc, two_one, ← numR_one, cnt_is]
      rw [mwp_load_b1 (by simp (disch := first | omega | decide) only [go_sem, f1, f3, f5, o1, o3, byte_wrap, List.append_assoc, two_one, ← numR_one, cnt_is]; rfl) (by rfl)]
      exact hK
     iterate 1 (apply adraw_step rfl; · (intro K hK; simp (disch := first | omega | decide) only [go_sem, f1, f3, f5, o1, o3, byte_wrap, List.append_assoc, two_one, ← numR_one, cnt_is]; exact hK))
     apply adraw_step rfl
     ·intro K hK
      simp (disch := first | omega | decide) only [go_sem, f1, f3, f5, o1, o3, act_indexAddr_s u25 ti76, List.map, byte_wrap, List.append_assoc, two_one, ← numR_one, cnt_is]
      skip
      exact hK
     apply adraw_step rfl
     ·intro K hK
      simp (disch := first | omega | decide) only [go_sem, f1, f3, f5, o1, o3, act_fieldAddr_t fo76_1, List.map, byte_wrap, List.append_assoc, two_one, ← numR_one, cnt_is]
      skip
      exact hK
     apply adraw_step rfl
     ·intro K hK
      simp (disch := first | omega | decide) only [go_sem, f1, f3, f5, o1, o3, act_load_t ti3, List.map, byte_wrap, List.append_assoc, two_one, ← numR_one, cnt_is]
      rw [mwp_load_i1 (by rfl)]
      exact hK
     iterate 1 (apply adraw_step rfl; · (intro K hK; simp (disch := first | omega | decide) only [go_sem, f1, f3, f5, o1, o3, act_convI u3 u71, byte_wrap, List.append_assoc, two_one, ← numR_one, cnt_is]; exact hK))
     apply adraw_step rfl
     ·intro K hK
      simp (disch := first | omega | decide) only [go_sem, f1, f3, f5, o1, o3, act_call, List.map, byte_wrap, List.append_assoc, two_one, ← numR_one, cnt_is]
      apply mwp_call_r rfl rfl rfl
      ·intro Q hQ
       (simp (disch := first | omega | decide) only [go_sem, f1, f3, f5, o1, o3, peekL, reifyL_nil, reifyL_cons, reify_v, byte_wrap, List.append_assoc, two_one, ← numR_one, cnt_is]; (exact hQ))
      ·exact O.good_refNum 8 (p.xs[k]).co (by omega) (by omega)
      ·simp [-List.map_take, -List.map_drop, -List.map_append, -List.map_replicate, -List.reduceReplicate, noPtrL, noPtr, noPtrL_bsl, noPtrL_map, sub]
      ·rw [resOf_own1 (by (simp (disch := decide) only [mset_ne, hr]; done))]
       exact hK
     apply adraw_step rfl
     ·intro K hK
      simp (disch := first | omega | decide) only [go_sem, f1, f3, f5, o1, o3, List.map, byte_wrap, List.append_assoc, two_one, ← numR_one, cnt_is]
      apply mwp_append2 el22 ti5 u22
      case hpk => intro Q hQ; (rw [peek_own (by simp (disch := first | omega | decide) only [go_sem, f1, f3, f5, o1, o3, byte_wrap, List.append_assoc, two_one, ← numR_one, cnt_is]; rfl)]; (try rw [sub_full (by rfl)]); exact hQ)
      case hs' => rfl
      case ho => simp (disch := first | omega | decide) only [go_sem, f1, f3, f5, o1, o3, byte_wrap, List.append_assoc, two_one, ← numR_one, cnt_is]; rfl
      case hsz => rfl
      case hhi => (simp [headB_len, linksB_len, itemsB_len, numR_length, List.length_append]; omega)
      case hb => (simp [sub, roomB, headB_len, linksB_len, itemsB_len, numR_length, List.length_append]; omega)
      case hy => exact all_cells rfl
      case k => (try simp only [List.nil_append, ← List.map_append, Bool.false_and]); exact hK
     apply adraw_step rfl
     ·intro K hK
      simp (disch := first | omega | decide) only [go_sem, f1, f3, f5, o1, o3, byte_wrap, List.append_assoc, two_one, ← numR_one, cnt_is]
      rw [asg_tmp (by simp (disch := first | omega | decide) only [go_sem, f1, f3, f5, o1, o3, byte_wrap, List.append_assoc, two_one, ← numR_one, cnt_is]; rfl)]
      exact hK
     refine adraw_nil (by kernel_rfl) ?_
     refine AW.region (cfg := cfg) ?_
     iterate 3 (apply aops_step (by decide) rfl; · (intro K hK; simp (disch := first | omega | decide) only [go_sem, f1, f3, f5, o1, o3, byte_wrap, List.append_assoc, two_one, ← numR_one, cnt_is]; exact hK _))
     refine aops_nil ?_
     refine ⟨_, _, rfl, ?_, ?_, ?_, ?_, ?_, (by intro i; simp [Mem.set, hr]), (by exact hG)⟩ <;> try simp (disch := first | omega | decide) only [go_sem, f1, f3, f5, o1, o3, byte_wrap, List.append_assoc, two_one, ← numR_one, cnt_is]
     all_goals first | rfl | (rw [itemsB_take hk]; simp [itemB, numR_one]; done)
    ·clear f1 f3 f4 o1 o3 hr hG
     rintro σ ⟨s, m, rfl, f1, o1, f3, o3, f5, hr, hG⟩
     obtain ⟨g1, o1⟩ : ∃ g, m.objs (.tmp 1 0) = (g, .box [.v (i64 p.kind), .v (i64 p.fr), .v (i64 p.boot), .v (i64 p.to), .v (i64 p.tb), .v (i64 p.ep), .v (i64 p.te), .v (.sl 2 p.hn (p.hs.map linkA)), .v (.sl 2 p.xn (p.xs.map linkA)), .v (.sl 3 p.ln (p.ls.map lsaA))]) := ⟨_, Prod.ext rfl o1⟩
     rw [o1] at f1
     obtain ⟨g3, o3⟩ : ∃ g, m.objs (.var 3) = (g, .arr false 1 (bsl (topB p ++ (linksB p.hs ++ itemsB (p.xs.take p.xs.length))))) := ⟨_, Prod.ext rfl o3⟩
     rw [o3] at f3
     refine AW.seq ?_
     refine AW.sr (cfg := cfg) ?_
     iterate 1 (apply aops_step (by decide) rfl; · (intro K hK; simp (disch := first | omega | decide) only [go_sem, f1, f3, f5, o1, o3, byte_wrap, List.append_assoc, two_one, ← numR_one, cnt_is]; exact hK _))
     refine aops_fl (by decide) (by decide) fo28_8 ti25 (by simp (disch := first | omega | decide) only [go_sem, f1, f3, f5, o1, o3, byte_wrap, List.append_assoc, two_one, ← numR_one, cnt_is]; rfl) (by simp (disch := first | omega | decide) only [go_sem, f1, f3, f5, o1, o3, byte_wrap, List.append_assoc, two_one, ← numR_one, cnt_is]; rfl) (by rfl) ?_
     iterate 2 (apply aops_step (by decide) rfl; · (intro K hK; simp (disch := first | omega | decide) only [go_sem, f1, f3, f5, o1, o3, List.map, List.length_map, aops_len u25, byte_wrap, List.append_assoc, two_one, ← numR_one, cnt_is]; exact hK _))
     refine aops_nil ?_
     apply AW.cond
     ·(simp only [go_sem, f1, f3, f5, o1, o3, byte_wrap, List.append_assoc, two_one, ← numR_one, cnt_is]; rfl)
     case ht => intro hb; (simp at hb; done)
     case hf =>
     intro hb
     have hbt98 := hb
     refine AW.exit ?_
     refine AW.seq ?_
     refine AW.sr (cfg := cfg) ?_
     iterate 1 (apply aops_step (by decide) rfl; · (intro K hK; simp (disch := first | omega | decide) only [go_sem, f1, f3, f5, o1, o3, byte_wrap, List.append_assoc, two_one, ← numR_one, cnt_is]; exact hK _))
     refine aops_nil ?_
     refine AW.block ?_
     refine AW.forN (fun k σ => ∃ s m, σ = ⟨137, s, m⟩ ∧ s 1 = .lptr (.tmp 1 0) (m.objs (.tmp 1 0)).1 0 ∧ (m.objs (.tmp 1 0)).2 = .box [.v (i64 p.kind), .v (i64 p.fr), .v (i64 p.boot), .v (i64 p.to), .v (i64 p.tb), .v (i64 p.ep), .v (i64 p.te), .v (.sl 2 p.hn (p.hs.map linkA)), .v (.sl 2 p.xn (p.xs.map linkA)), .v (.sl 3 p.ln (p.ls.map lsaA))] ∧ s 3 = .own (.var 3) (m.objs (.var 3)).1 0 ((topB p).length + 5 * p.hs.length + 9 * p.xs.length + (lsasB (p.ls.take k)).length) ∧ (m.objs (.var 3)).2 = .arr false 1 (bsl (topB p ++ (linksB p.hs ++ (itemsB p.xs ++ lsasB (p.ls.take k))))) ∧ s 6 = .v (i64 (k : Int)) ∧ (∀ i, (m.objs (.res i)).2 = .dead) ∧ m.G = []) (p.ls.length) ?_ ?_ ?_
     ·refine ⟨_, _, rfl, ?_, ?_, ?_, ?_, ?_, (by intro i; simp [Mem.set, hr]), (by exact hG)⟩ <;> try simp (disch := first | omega | decide) only [go_sem, f1, f3, f5, o1, o3, byte_wrap, List.append_assoc, two_one, ← numR_one, cnt_is]
      all_goals first | rfl | (simp [lsasB]; done)
     ·clear f1 f3 f5 o1 o3 hr hG
      rintro k σ hk ⟨s, m, rfl, f1, o1, f3, o3, f6, hr, hG⟩
      obtain ⟨g1, o1⟩ : ∃ g, m.objs (.tmp 1 0) = (g, .box [.v (i64 p.kind), .v (i64 p.fr), .v (i64 p.boot), .v (i64 p.to), .v (i64 p.tb), .v (i64 p.ep), .v (i64 p.te), .v (.sl 2 p.hn (p.hs.map linkA)), .v (.sl 2 p.xn (p.xs.map linkA)), .v (.sl 3 p.ln (p.ls.map lsaA))]) := ⟨_, Prod.ext rfl o1⟩
      rw [o1] at f1
      obtain ⟨g3, o3⟩ : ∃ g, m.objs (.var 3) = (g, .arr false 1 (bsl (topB p ++ (linksB p.hs ++ (itemsB p.xs ++ lsasB (p.ls.take k)))))) := ⟨_, Prod.ext rfl o3⟩
      rw [o3] at f3
      refine AW.seq ?_
      refine AW.sr (cfg := cfg) ?_
      iterate 1 (apply aops_step (by decide) rfl; · (intro K hK; simp (disch := first | omega | decide) only [go_sem, f1, f3, f6, o1, o3, byte_wrap, List.append_assoc, two_one, ← numR_one, cnt_is]; exact hK _))
      refine aops_fl (by decide) (by decide) fo28_9 ti26 (by simp (disch := first | omega | decide) only [go_sem, f1, f3, f6, o1, o3, byte_wrap, List.append_assoc, two_one, ← numR_one, cnt_is]; rfl) (by simp (disch := first | omega | decide) only [go_sem, f1, f3, f6, o1, o3, byte_wrap, List.append_assoc, two_one, ← numR_one, cnt_is]; rfl) (by rfl) ?_
      iterate 2 (apply aops_step (by decide) rfl; · (intro K hK; simp (disch := first | omega | decide) only [go_sem, f1, f3, f6, o1, o3, List.map, List.length_map, aops_len u26, byte_wrap, List.append_assoc, two_one, ← numR_one, cnt_is]; exact hK _))
      refine aops_nil ?_
      apply AW.cond
      ·(simp only [go_sem, f1, f3, f6, o1, o3, byte_wrap, List.append_assoc, two_one, ← numR_one, cnt_is]; rfl)
      case hf => intro hb; (simp at hb; omega)
      case ht =>
      intro hb
      have hbt124 := hb
      refine AW.skip ?_
      refine AW.seq ?_
      refine AW.block ?_
      have hb1 := d5 _ (List.getElem_mem hk)
      have hb2 := eta_ok hb1
      have hb4 := (lsa_bd hb1).2.2.1
      have hb5 := lsasB_len (ls := p.ls.take k) (fun x hx => d5 x (List.mem_of_mem_take hx))
      have hb6 : (p.ls.take k).length ≤ 8 := by (simp; omega)
      have hb7 : (lsaB ⟨p.ls[k].o, p.ls[k].s, p.ls[k].nil, p.ls[k].ls⟩).length = 10 + 5 * p.ls[k].ls.length := lsaB_len _
      refine AW.region (cfg := cfg) ?_
      iterate 1 (apply aops_step (by decide) rfl; · (intro K hK; simp (disch := first | omega | decide) only [go_sem, f1, f3, f6, o1, o3, byte_wrap, List.append_assoc, two_one, ← numR_one, cnt_is]; exact hK _))
      refine aops_fl (by decide) (by decide) fo28_9 ti26 (by simp (disch := first | omega | decide) only [go_sem, f1, f3, f6, o1, o3, byte_wrap, List.append_assoc, two_one, ← numR_one, cnt_is]; rfl) (by simp (disch := first | omega | decide) only [go_sem, f1, f3, f6, o1, o3, byte_wrap, List.append_assoc, two_one, ← numR_one, cnt_is]; rfl) (by rfl) ?_
      iterate 1 (apply aops_step (by decide) rfl; · (intro K hK; simp (disch := first | omega | decide) only [go_sem, f1, f3, f6, o1, o3, byte_wrap, List.append_assoc, two_one, ← numR_one, cnt_is]; exact hK _))
      apply aops_step (by decide) rfl
      ·intro K hK
       simp (disch := first | omega | decide) only [go_sem, f1, f3, f6, o1, o3, act_indexAddr_s u26 ti79, List.map, byte_wrap, List.append_assoc, two_one, ← numR_one, cnt_is]
       skip
       exact hK _
      apply aops_step (by decide) rfl
      ·intro K hK
       simp (disch := first | omega | decide) only [go_sem, f1, f3, f6, o1, o3, act_load_t ti79, List.map, byte_wrap, List.append_assoc, two_one, ← numR_one, cnt_is]
       rw [mwp_load_is (by simp)]
       exact hK _
      apply aops_step (by decide) rfl
      ·intro K hK
       simp (disch := first | omega | decide) only [go_sem, f1, f3, f6, o1, o3, act_call, List.map, byte_wrap, List.append_assoc, two_one, ← numR_one, cnt_is]
       apply mwp_call_r rfl rfl rfl
       ·intro Q hQ
        (simp (disch := first | omega | decide) only [go_sem, f1, f3, f6, o1, o3, peekL, reifyL_nil, reifyL_cons, reify_v, byte_wrap, List.append_assoc, two_one, ← numR_one, cnt_is]; (exact hQ))
       ·exact L.good_refPut _ _ _ _ hb2
       ·simp [-List.map_take, -List.map_drop, -List.map_append, -List.map_replicate, -List.reduceReplicate, noPtrL, noPtr, noPtrL_bsl, noPtrL_map, sub]
       ·rw [resOf_own1 (by (simp (disch := decide) only [mset_ne, hr]; done))]
        exact hK _
      apply aops_step (by decide) rfl
      ·intro K hK
       simp (disch := first | omega | decide) only [go_sem, f1, f3, f6, o1, o3, List.map, byte_wrap, List.append_assoc, two_one, ← numR_one, cnt_is]
       apply mwp_append2 el22 ti5 u22
       case hpk => intro Q hQ; (rw [peek_own (by simp (disch := first | omega | decide) only [go_sem, f1, f3, f6, o1, o3, byte_wrap, List.append_assoc, two_one, ← numR_one, cnt_is]; rfl)]; (try rw [sub_full (by rfl)]); exact hQ)
       case hs' => rfl
       case ho => simp (disch := first | omega | decide) only [go_sem, f1, f3, f6, o1, o3, byte_wrap, List.append_assoc, two_one, ← numR_one, cnt_is]; rfl
       case hsz => rfl
       case hhi => (simp [headB_len, linksB_len, itemsB_len, numR_length, List.length_append]; omega)
       case hb => (simp only [List.length_cons, List.length_nil, List.length_map, Nat.zero_add, Nat.reduceAdd, roomB]; omega)
       case hy => (simp [sub, cellsOf]; done)
       case k => (try simp only [List.nil_append, ← List.map_append, Bool.false_and]); exact hK _
      apply aops_step (by decide) rfl
      ·intro K hK
       simp (disch := first | omega | decide) only [go_sem, f1, f3, f6, o1, o3, byte_wrap, List.append_assoc, two_one, ← numR_one, cnt_is]
       rw [asg_tmp (by simp (disch := first | omega | decide) only [go_sem, f1, f3, f6, o1, o3, byte_wrap, List.append_assoc, two_one, ← numR_one, cnt_is]; rfl)]
       exact hK _
      refine aops_nil ?_
      refine AW.region (cfg := cfg) ?_
      iterate 3 (apply aops_step (by decide) rfl; · (intro K hK; simp (disch := first | omega | decide) only [go_sem, f1, f3, f6, o1, o3, byte_wrap, List.append_assoc, two_one, ← numR_one, cnt_is]; exact hK _))
      refine aops_nil ?_
      refine ⟨_, _, rfl, ?_, ?_, ?_, ?_, ?_, (by intro i; simp [Mem.set, hr]), (by exact hG)⟩ <;> try simp (disch := first | omega | decide) only [go_sem, f1, f3, f6, o1, o3, byte_wrap, List.append_assoc, two_one, ← numR_one, cnt_is]
      all_goals first | rfl | (rw [lsasB_take hk]; done) | (rw [lsasB_take hk]; simp [lsaB_len]; omega)
     ·clear f1 f3 f5 o1 o3 hr hG
      rintro σ ⟨s, m, rfl, f1, o1, f3, o3, f6, hr, hG⟩
      obtain ⟨g1, o1⟩ : ∃ g, m.objs (.tmp 1 0) = (g, .box [.v (i64 p.kind), .v (i64 p.fr), .v (i64 p.boot), .v (i64 p.to), .v (i64 p.tb), .v (i64 p.ep), .v (i64 p.te), .v (.sl 2 p.hn (p.hs.map linkA)), .v (.sl 2 p.xn (p.xs.map linkA)), .v (.sl 3 p.ln (p.ls.map lsaA))]) := ⟨_, Prod.ext rfl o1⟩
      rw [o1] at f1
      obtain ⟨g3, o3⟩ : ∃ g, m.objs (.var 3) = (g, .arr false 1 (bsl (topB p ++ (linksB p.hs ++ (itemsB p.xs ++ lsasB (p.ls.take p.ls.length)))))) := ⟨_, Prod.ext rfl o3⟩
      rw [o3] at f3
      refine AW.seq ?_
      refine AW.sr (cfg := cfg) ?_
      iterate 1 (apply aops_step (by decide) rfl; · (intro K hK; simp (disch := first | omega | decide) only [go_sem, f1, f3, f6, o1, o3, byte_wrap, List.append_assoc, two_one, ← numR_one, cnt_is]; exact hK _))
      refine aops_fl (by decide) (by decide) fo28_9 ti26 (by simp (disch := first | omega | decide) only [go_sem, f1, f3, f6, o1, o3, byte_wrap, List.append_assoc, two_one, ← numR_one, cnt_is]; rfl) (by simp (disch := first | omega | decide) only [go_sem, f1, f3, f6, o1, o3, byte_wrap, List.append_assoc, two_one, ← numR_one, cnt_is]; rfl) (by rfl) ?_
      iterate 2 (apply aops_step (by decide) rfl; · (intro K hK; simp (disch := first | omega | decide) only [go_sem, f1, f3, f6, o1, o3, List.map, List.length_map, aops_len u26, byte_wrap, List.append_assoc, two_one, ← numR_one, cnt_is]; exact hK _))
      refine aops_nil ?_
      apply AW.cond
      ·(simp only [go_sem, f1, f3, f6, o1, o3, byte_wrap, List.append_assoc, two_one, ← numR_one, cnt_is]; rfl)
      case ht => intro hb; (simp at hb; done)
      case hf =>
      intro hb
      have hbt124 := hb
      refine AW.exit ?_
      refine AW.seq ?_
      have e7 : (topB p ++ (linksB p.hs ++ (itemsB p.xs ++ lsasB (p.ls.take p.ls.length)))) = pktB p := by rw [List.take_length]; rfl
      refine AW.region (cfg := cfg) ?_
      iterate 1 (apply aops_step (by decide) rfl; · (intro K hK; simp (disch := first | omega | decide) only [go_sem, f1, f3, f6, o1, o3, byte_wrap, List.append_assoc, two_one, ← numR_one, cnt_is]; exact hK _))
      apply aops_step (by decide) rfl
      ·intro K hK
       simp (disch := first | omega | decide) only [go_sem, f1, f3, f6, o1, o3, act_call, List.map, byte_wrap, List.append_assoc, two_one, ← numR_one, cnt_is]
       apply mwp_call_r rfl rfl rfl
       ·intro Q hQ
        (simp (disch := first | omega | decide) only [go_sem, f1, f3, f6, o1, o3, peekL, reifyL_nil, reifyL_cons, reify_v, byte_wrap, List.append_assoc, two_one, ← numR_one, cnt_is]; ((((rw [mwp_reify_own (by simp only [go_sem, f1, f3, f6, o1, o3, peekL, reifyL_nil, reifyL_cons, reify_v, byte_wrap, List.append_assoc, two_one, ← numR_one, cnt_is]; rfl)]); (try rw [sub_full (by (simp [headB_len, linksB_len, itemsB_len, numR_length, List.length_append]; omega))])); exact hQ)))
       ·exact Z.good_refSeal false (topB p ++ (linksB p.hs ++ (itemsB p.xs ++ lsasB (p.ls.take p.ls.length)))) (by rw [e7]; omega)
       ·simp [-List.map_take, -List.map_drop, -List.map_append, -List.map_replicate, -List.reduceReplicate, noPtrL, noPtr, noPtrL_bsl, noPtrL_map, sub]
       ·simp (disch := first | omega | decide) only [go_sem, f1, f3, f6, o1, o3, byte_wrap, List.append_assoc, two_one, ← numR_one, cnt_is]
        exact hK _
      iterate 1 (apply aops_step (by decide) rfl; · (intro K hK; simp (disch := first | omega | decide) only [go_sem, f1, f3, f6, o1, o3, byte_wrap, List.append_assoc, two_one, ← numR_one, cnt_is]; exact hK _))
      refine aops_nil ?_
      refine AW.ret ?_
      refine ⟨.inr rfl, ?_⟩
      refine leaves_tmp1 2 rfl ?_ (by exact hG)
      simp (disch := first | omega | decide) only [go_sem, f1, f3, f6, o1, o3, byte_wrap, List.append_assoc, two_one, ← numR_one, cnt_is]
      all_goals (rw [(ps_ok hok).1, ← e7]; done)
end Go.Vai.P
