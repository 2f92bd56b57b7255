import Derived.Test.YtompjoadhhjddaabAw09
namespace Go.Vai.L
open Go.Proofs Go.Vai Go.Vai.O
set_option linter.unusedSimpArgs false
set_option linter.unusedVariables false
theorem u4 : Try.prog.underlying 4 = some .bool := by kernel_rfl

set_option maxHeartbeats 4000000 in
set_option maxRecDepth 100000 in
theorem good_LsaPuts (x : Lsa) (hx : x.ls.length ≤ 9223372036854775807)(na : Bool) (a : List (BitVec 8)) (ha : a.length ≤ 9223372036854775807) (hza : na = true → a = [])(nm : Bool) (mo : List (BitVec 8)) (hm : mo.length ≤ 9223372036854775807) (hzm : nm = true → mo = []) : Good Try.prog 3 [(lsaA x, false), (.sl 1 na (bsl a), false), (.sl 1 nm (bsl mo), false)] [] [(.b true, false)] [] := by
  refine good_of_body4 91 Try.func3 rfl rfl rfl (by simp) (by simp) (by simp [noPtrL, noPtr]) rfl ?_
  intro s m ha hr hv hG
  have f0 : s 0 = .v (.agg [i64 x.o, i64 x.s, .sl 2 x.nil (x.ls.map linkA)]) := ha 0 _ rfl
  have f1 : s 1 = .v (.sl 1 na (bsl a)) := ha 1 _ rfl
  have f2 : s 2 = .v (.sl 1 nm (bsl mo)) := ha 2 _ rfl
  clear ha
  refine AW.seq ?_
  refine AW.region (cfg := cfg) ?_
  apply aops_step (by decide) rfl
  · intro K hK
    simp (disch := first | omega | decide) only [go_sem, f0, f1, f2, act_box_t ti24, List.map, cellsOf_link, cellsOf_lsa, List.append_nil, d33, d77, d10, d01, d10', d00, d11, dtt, dff, dtf, dft, dnt, dnf, deq, Bool.not_true, Bool.not_false, Bool.true_and, Bool.and_true, beq_self_eq_true, bne_self_eq_false]
    rw [settleL_vish _ _ (by rfl)]
    simp (disch := first | omega | decide) only [go_sem, f0, f1, f2, cellsL, List.map, List.length_cons, List.length_nil, Nat.reduceAdd, if_true, cellsOf_link, cellsOf_lsa, List.append_nil, d33, d77, d10, d01, d10', d00, d11, dtt, dff, dtf, dft, dnt, dnf, deq, Bool.not_true, Bool.not_false, Bool.true_and, Bool.and_true, beq_self_eq_true, bne_self_eq_false]
    exact hK _
  iterate 1 (apply aops_step (by decide) rfl; · (intro K hK; simp (disch := first | omega | decide) only [go_sem, f0, f1, f2, cellsOf_link, cellsOf_lsa, List.append_nil, d33, d77, d10, d01, d10', d00, d11, dtt, dff, dtf, dft, dnt, dnf, deq, Bool.not_true, Bool.not_false, Bool.true_and, Bool.and_true, beq_self_eq_true, bne_self_eq_false]; exact hK _))
  refine aops_nil ?_
  refine AW.seq ?_
  refine AW.seq ?_
  refine AW.region (cfg := cfg) ?_
  apply aops_step (by decide) rfl
  · intro K hK
    simp (disch := first | omega | decide) only [go_sem, f0, f1, f2, act_load_t ti24, List.map, cellsOf_link, cellsOf_lsa, List.append_nil, d33, d77, d10, d01, d10', d00, d11, dtt, dff, dtf, dft, dnt, dnf, deq, Bool.not_true, Bool.not_false, Bool.true_and, Bool.and_true, beq_self_eq_true, bne_self_eq_false]
    rw [mwp_load_bs (by simp (disch := first | omega | decide) only [go_sem, f0, f1, f2, cellsOf_link, cellsOf_lsa, List.append_nil, d33, d77, d10, d01, d10', d00, d11, dtt, dff, dtf, dft, dnt, dnf, deq, Bool.not_true, Bool.not_false, Bool.true_and, Bool.and_true, beq_self_eq_true, bne_self_eq_false]; rfl) (by simp [setAt])]
    exact hK _
  apply aops_step (by decide) rfl
  · intro K hK
    simp (disch := first | omega | decide) only [go_sem, f0, f1, f2, act_call, List.map, cellsOf_link, cellsOf_lsa, List.append_nil, d33, d77, d10, d01, d10', d00, d11, dtt, dff, dtf, dft, dnt, dnf, deq, Bool.not_true, Bool.not_false, Bool.true_and, Bool.and_true, beq_self_eq_true, bne_self_eq_false]
    apply mwp_call_s rfl rfl rfl
    · intro Q hQ
      simp (disch := first | omega | decide) only [go_sem, f0, f1, f2, peekL, reifyL_nil, reifyL_cons, reify_v, cellsOf_link, cellsOf_lsa, List.append_nil, d33, d77, d10, d01, d10', d00, d11, dtt, dff, dtf, dft, dnt, dnf, deq, Bool.not_true, Bool.not_false, Bool.true_and, Bool.and_true, beq_self_eq_true, bne_self_eq_false]
      exact hQ
    · exact good_Light x (by omega)
    · simp [-List.map_take, -List.map_drop, -List.map_append, -List.map_replicate, -List.reduceReplicate, noPtrL, noPtr, noPtrL_bsl, noPtrL_map, noPtrL_links, noPtr_lsa, noPtrL_lsas, sub]
    · rfl
    · exact hK _
  iterate 2 (apply aops_step (by decide) rfl; · (intro K hK; simp (disch := first | omega | decide) only [go_sem, f0, f1, f2, cellsOf_link, cellsOf_lsa, List.append_nil, d33, d77, d10, d01, d10', d00, d11, dtt, dff, dtf, dft, dnt, dnf, deq, Bool.not_true, Bool.not_false, Bool.true_and, Bool.and_true, beq_self_eq_true, bne_self_eq_false]; exact hK _))
  apply aops_merge' (by decide) (by exact want_of (d := 16) rfl (by simp (disch := first | omega | decide) only [go_sem, f0, f1, f2, opn_cond, cellsOf_link, cellsOf_lsa, List.append_nil, d33, d77, d10, d01, d10', d00, d11, dtt, dff, dtf, dft, dnt, dnf, deq, Bool.not_true, Bool.not_false, Bool.true_and, Bool.and_true, beq_self_eq_true, bne_self_eq_false]; rfl))
  · intro hc K hK
    have hc2 := hc
    simp only [beq_iff_eq, decide_eq_true_eq, decide_eq_false_iff_not, Bool.or_eq_true, Bool.and_eq_true, Bool.or_eq_false_iff, Bool.and_eq_false_iff] at hc2
    simp (disch := first | omega | decide) only [go_sem, f0, f1, f2, opn_cond, hc, if_true, cellsOf_link, cellsOf_lsa, List.append_nil, d33, d77, d10, d01, d10', d00, d11, dtt, dff, dtf, dft, dnt, dnf, deq, Bool.not_true, Bool.not_false, Bool.true_and, Bool.and_true, beq_self_eq_true, bne_self_eq_false]
    exact hK _
  apply aops_merge' (by decide) (by exact want_of (d := 16) rfl (by simp (disch := first | omega | decide) only [go_sem, f0, f1, f2, opn_cond, cellsOf_link, cellsOf_lsa, List.append_nil, d33, d77, d10, d01, d10', d00, d11, dtt, dff, dtf, dft, dnt, dnf, deq, Bool.not_true, Bool.not_false, Bool.true_and, Bool.and_true, beq_self_eq_true, bne_self_eq_false]; rfl))
  · intro hc K hK
    have hc2 := hc
    simp only [beq_iff_eq, decide_eq_true_eq, decide_eq_false_iff_not, Bool.or_eq_true, Bool.and_eq_true, Bool.or_eq_false_iff, Bool.and_eq_false_iff] at hc2
    simp (disch := first | omega | decide) only [go_sem, f0, f1, f2, opn_cond, hc, if_true, List.map, List.length_map, aops_len u25, cellsOf_link, cellsOf_lsa, List.append_nil, d33, d77, d10, d01, d10', d00, d11, dtt, dff, dtf, dft, dnt, dnf, deq, Bool.not_true, Bool.not_false, Bool.true_and, Bool.and_true, beq_self_eq_true, bne_self_eq_false]
    exact hK _
  apply aops_merge' (by decide) (by exact want_of (d := 16) rfl (by simp (disch := first | omega | decide) only [go_sem, f0, f1, f2, opn_cond, cellsOf_link, cellsOf_lsa, List.append_nil, d33, d77, d10, d01, d10', d00, d11, dtt, dff, dtf, dft, dnt, dnf, deq, Bool.not_true, Bool.not_false, Bool.true_and, Bool.and_true, beq_self_eq_true, bne_self_eq_false]; rfl))
  · intro hc K hK
    have hc2 := hc
    simp only [beq_iff_eq, decide_eq_true_eq, decide_eq_false_iff_not, Bool.or_eq_true, Bool.and_eq_true, Bool.or_eq_false_iff, Bool.and_eq_false_iff] at hc2
    simp (disch := first | omega | decide) only [go_sem, f0, f1, f2, opn_cond, hc, if_true, cellsOf_link, cellsOf_lsa, List.append_nil, d33, d77, d10, d01, d10', d00, d11, dtt, dff, dtf, dft, dnt, dnf, deq, Bool.not_true, Bool.not_false, Bool.true_and, Bool.and_true, beq_self_eq_true, bne_self_eq_false]
    exact hK _
  iterate 2 (apply aops_step (by decide) rfl; · (intro K hK; simp (disch := first | omega | decide) only [go_sem, f0, f1, f2, cellsOf_link, cellsOf_lsa, List.append_nil, d33, d77, d10, d01, d10', d00, d11, dtt, dff, dtf, dft, dnt, dnf, deq, Bool.not_true, Bool.not_false, Bool.true_and, Bool.and_true, beq_self_eq_true, bne_self_eq_false]; exact hK _))
  apply aops_merge' (by decide) (by exact want_of (d := 21) rfl (by simp (disch := first | omega | decide) only [go_sem, f0, f1, f2, opn_cond, cellsOf_link, cellsOf_lsa, List.append_nil, d33, d77, d10, d01, d10', d00, d11, dtt, dff, dtf, dft, dnt, dnf, deq, Bool.not_true, Bool.not_false, Bool.true_and, Bool.and_true, beq_self_eq_true, bne_self_eq_false]; rfl))
  · intro hc K hK
    have hc2 := hc
    simp only [beq_iff_eq, decide_eq_true_eq, decide_eq_false_iff_not, Bool.or_eq_true, Bool.and_eq_true, Bool.or_eq_false_iff, Bool.and_eq_false_iff] at hc2
    simp (disch := first | omega | decide) only [go_sem, f0, f1, f2, opn_cond, hc, if_true, cellsOf_link, cellsOf_lsa, List.append_nil, d33, d77, d10, d01, d10', d00, d11, dtt, dff, dtf, dft, dnt, dnf, deq, Bool.not_true, Bool.not_false, Bool.true_and, Bool.and_true, beq_self_eq_true, bne_self_eq_false]
    exact hK _
  apply aops_merge' (by decide) (by exact want_of (d := 21) rfl (by simp (disch := first | omega | decide) only [go_sem, f0, f1, f2, opn_cond, cellsOf_link, cellsOf_lsa, List.append_nil, d33, d77, d10, d01, d10', d00, d11, dtt, dff, dtf, dft, dnt, dnf, deq, Bool.not_true, Bool.not_false, Bool.true_and, Bool.and_true, beq_self_eq_true, bne_self_eq_false]; rfl))
  · intro hc K hK
    have hc2 := hc
    simp only [beq_iff_eq, decide_eq_true_eq, decide_eq_false_iff_not, Bool.or_eq_true, Bool.and_eq_true, Bool.or_eq_false_iff, Bool.and_eq_false_iff] at hc2
    simp (disch := first | omega | decide) only [go_sem, f0, f1, f2, opn_cond, hc, if_true, List.map, List.length_map, aops_len u25, cellsOf_link, cellsOf_lsa, List.append_nil, d33, d77, d10, d01, d10', d00, d11, dtt, dff, dtf, dft, dnt, dnf, deq, Bool.not_true, Bool.not_false, Bool.true_and, Bool.and_true, beq_self_eq_true, bne_self_eq_false]
    exact hK _
  apply aops_merge' (by decide) (by exact want_of (d := 21) rfl (by simp (disch := first | omega | decide) only [go_sem, f0, f1, f2, opn_cond, cellsOf_link, cellsOf_lsa, List.append_nil, d33, d77, d10, d01, d10', d00, d11, dtt, dff, dtf, dft, dnt, dnf, deq, Bool.not_true, Bool.not_false, Bool.true_and, Bool.and_true, beq_self_eq_true, bne_self_eq_false]; rfl))
  · intro hc K hK
    have hc2 := hc
    simp only [beq_iff_eq, decide_eq_true_eq, decide_eq_false_iff_not, Bool.or_eq_true, Bool.and_eq_true, Bool.or_eq_false_iff, Bool.and_eq_false_iff] at hc2
    simp (disch := first | omega | decide) only [go_sem, f0, f1, f2, opn_cond, hc, if_true, cellsOf_link, cellsOf_lsa, List.append_nil, d33, d77, d10, d01, d10', d00, d11, dtt, dff, dtf, dft, dnt, dnf, deq, Bool.not_true, Bool.not_false, Bool.true_and, Bool.and_true, beq_self_eq_true, bne_self_eq_false]
    exact hK _
  iterate 1 (apply aops_step (by decide) rfl; · (intro K hK; simp (disch := first | omega | decide) only [go_sem, f0, f1, f2, cellsOf_link, cellsOf_lsa, List.append_nil, d33, d77, d10, d01, d10', d00, d11, dtt, dff, dtf, dft, dnt, dnf, deq, Bool.not_true, Bool.not_false, Bool.true_and, Bool.and_true, beq_self_eq_true, bne_self_eq_false]; exact hK _))
  refine aops_nil ?_
  apply AW.cond
  · simp (disch := first | omega | decide) only [go_sem, f0, f1, f2, cellsOf_link, cellsOf_lsa, List.append_nil, d33, d77, d10, d01, d10', d00, d11, dtt, dff, dtf, dft, dnt, dnf, deq, Bool.not_true, Bool.not_false, Bool.true_and, Bool.and_true, beq_self_eq_true, bne_self_eq_false]; rfl
  case ht =>
    intro hb
    try simp only [Bool.or_eq_true, Bool.and_eq_true, Bool.or_eq_false_iff, Bool.and_eq_false_iff, decide_eq_true_eq, decide_eq_false_iff_not] at hb
    have hbt25 := hb
    refine AW.seq ?_
    refine AW.region (cfg := cfg) ?_
    apply aops_step (by decide) rfl
    · intro K hK
      simp (disch := first | omega | decide) only [go_sem, f0, f1, f2, act_call, List.map, cellsOf_link, cellsOf_lsa, List.append_nil, d33, d77, d10, d01, d10', d00, d11, dtt, dff, dtf, dft, dnt, dnf, deq, Bool.not_true, Bool.not_false, Bool.true_and, Bool.and_true, beq_self_eq_true, bne_self_eq_false]
      apply mwp_call_s rfl rfl rfl
      · intro Q hQ
        simp (disch := first | omega | decide) only [go_sem, f0, f1, f2, peekL, reifyL_nil, reifyL_cons, reify_v, cellsOf_link, cellsOf_lsa, List.append_nil, d33, d77, d10, d01, d10', d00, d11, dtt, dff, dtf, dft, dnt, dnf, deq, Bool.not_true, Bool.not_false, Bool.true_and, Bool.and_true, beq_self_eq_true, bne_self_eq_false]
        exact hQ
      · exact L.good_awake
      · simp [-List.map_take, -List.map_drop, -List.map_append, -List.map_replicate, -List.reduceReplicate, noPtrL, noPtr, noPtrL_bsl, noPtrL_map, noPtrL_links, noPtr_lsa, noPtrL_lsas, sub]
      · rfl
      · exact hK _
    iterate 1 (apply aops_step (by decide) rfl; · (intro K hK; simp (disch := first | omega | decide) only [go_sem, f0, f1, f2, cellsOf_link, cellsOf_lsa, List.append_nil, d33, d77, d10, d01, d10', d00, d11, dtt, dff, dtf, dft, dnt, dnf, deq, Bool.not_true, Bool.not_false, Bool.true_and, Bool.and_true, beq_self_eq_true, bne_self_eq_false]; exact hK _))
    refine aops_nil ?_
    refine AW.ret ?_
    refine ⟨.inr rfl, ?_⟩
    apply Exists.intro
    refine leaves_tmp1 6 rfl ?_ (by rfl)
    simp (disch := first | omega | decide) only [go_sem, f0, f1, f2, cellsOf_link, cellsOf_lsa, List.append_nil, d33, d77, d10, d01, d10', d00, d11, dtt, dff, dtf, dft, dnt, dnf, deq, Bool.not_true, Bool.not_false, Bool.true_and, Bool.and_true, beq_self_eq_true, bne_self_eq_false]
    all_goals first | done | rfl | trace_state
  case hf =>
    intro hb
    try simp only [Bool.or_eq_true, Bool.and_eq_true, Bool.or_eq_false_iff, Bool.and_eq_false_iff, decide_eq_true_eq, decide_eq_false_iff_not] at hb
    have hbt25 := hb
    refine AW.skip ?_
    refine AW.seq ?_
    by_cases hsp : lsaOK x = true
    · have hd := decide_eq_true hsp
      obtain ⟨q1, q2, q3⟩ := ok_is0 hsp
      obtain ⟨p1, p2, p3, p4⟩ := rd_backs hsp mo
      have bd := (lsa_bd hsp).2.2.1
      have q4 := lsaEq_nil x x.ls.isEmpty
      refine AW.region (cfg := cfg) ?_
      apply aops_step (by decide) rfl
      · intro K hK
        simp (disch := first | omega | decide) only [go_sem, f0, f1, f2, hd, hsp, q1, q2, q3, p1, p2, p3, q4, act_load_t ti24, List.map, cellsOf_link, cellsOf_lsa, List.append_nil, d33, d77, d10, d01, d10', d00, d11, dtt, dff, dtf, dft, dnt, dnf, deq, Bool.not_true, Bool.not_false, Bool.true_and, Bool.and_true, beq_self_eq_true, bne_self_eq_false]
        rw [mwp_load_bs (by simp (disch := first | omega | decide) only [go_sem, f0, f1, f2, hd, hsp, q1, q2, q3, p1, p2, p3, q4, cellsOf_link, cellsOf_lsa, List.append_nil, d33, d77, d10, d01, d10', d00, d11, dtt, dff, dtf, dft, dnt, dnf, deq, Bool.not_true, Bool.not_false, Bool.true_and, Bool.and_true, beq_self_eq_true, bne_self_eq_false]; rfl) (by simp [setAt])]
        exact hK _
      apply aops_step (by decide) rfl
      · intro K hK
        simp (disch := first | omega | decide) only [go_sem, f0, f1, f2, hd, hsp, q1, q2, q3, p1, p2, p3, q4, act_call, List.map, cellsOf_link, cellsOf_lsa, List.append_nil, d33, d77, d10, d01, d10', d00, d11, dtt, dff, dtf, dft, dnt, dnf, deq, Bool.not_true, Bool.not_false, Bool.true_and, Bool.and_true, beq_self_eq_true, bne_self_eq_false]
        apply mwp_call_s rfl rfl rfl
        · intro Q hQ
          simp (disch := first | omega | decide) only [go_sem, f0, f1, f2, hd, hsp, q1, q2, q3, p1, p2, p3, q4, peekL, reifyL_nil, reifyL_cons, reify_v, cellsOf_link, cellsOf_lsa, List.append_nil, d33, d77, d10, d01, d10', d00, d11, dtt, dff, dtf, dft, dnt, dnf, deq, Bool.not_true, Bool.not_false, Bool.true_and, Bool.and_true, beq_self_eq_true, bne_self_eq_false]
          exact hQ
        · exact good_refMay x.o x.s x.nil x.ls (by omega)
        · simp [-List.map_take, -List.map_drop, -List.map_append, -List.map_replicate, -List.reduceReplicate, noPtrL, noPtr, noPtrL_bsl, noPtrL_map, noPtrL_links, noPtr_lsa, noPtrL_lsas, sub]
        · rfl
        · exact hK _
      iterate 1 (apply aops_step (by decide) rfl; · (intro K hK; simp (disch := first | omega | decide) only [go_sem, f0, f1, f2, hd, hsp, q1, q2, q3, p1, p2, p3, q4, cellsOf_link, cellsOf_lsa, List.append_nil, d33, d77, d10, d01, d10', d00, d11, dtt, dff, dtf, dft, dnt, dnf, deq, Bool.not_true, Bool.not_false, Bool.true_and, Bool.and_true, beq_self_eq_true, bne_self_eq_false]; exact hK _))
      refine aops_nil ?_
      refine AW.seq ?_
      refine AW.region (cfg := cfg) ?_
      iterate 1 (apply aops_step (by decide) rfl; · (intro K hK; simp (disch := first | omega | decide) only [go_sem, f0, f1, f2, hd, hsp, q1, q2, q3, p1, p2, p3, q4, cellsOf_link, cellsOf_lsa, List.append_nil, d33, d77, d10, d01, d10', d00, d11, dtt, dff, dtf, dft, dnt, dnf, deq, Bool.not_true, Bool.not_false, Bool.true_and, Bool.and_true, beq_self_eq_true, bne_self_eq_false]; exact hK _))
      apply aops_step (by decide) rfl
      · intro K hK
        simp (disch := first | omega | decide) only [go_sem, f0, f1, f2, hd, hsp, q1, q2, q3, p1, p2, p3, q4, act_load_t ti24, List.map, cellsOf_link, cellsOf_lsa, List.append_nil, d33, d77, d10, d01, d10', d00, d11, dtt, dff, dtf, dft, dnt, dnf, deq, Bool.not_true, Bool.not_false, Bool.true_and, Bool.and_true, beq_self_eq_true, bne_self_eq_false]
        rw [mwp_load_bs (by simp (disch := first | omega | decide) only [go_sem, f0, f1, f2, hd, hsp, q1, q2, q3, p1, p2, p3, q4, cellsOf_link, cellsOf_lsa, List.append_nil, d33, d77, d10, d01, d10', d00, d11, dtt, dff, dtf, dft, dnt, dnf, deq, Bool.not_true, Bool.not_false, Bool.true_and, Bool.and_true, beq_self_eq_true, bne_self_eq_false]; rfl) (by simp [setAt])]
        exact hK _
      apply aops_step (by decide) rfl
      · intro K hK
        simp (disch := first | omega | decide) only [go_sem, f0, f1, f2, hd, hsp, q1, q2, q3, p1, p2, p3, q4, act_call, List.map, cellsOf_link, cellsOf_lsa, List.append_nil, d33, d77, d10, d01, d10', d00, d11, dtt, dff, dtf, dft, dnt, dnf, deq, Bool.not_true, Bool.not_false, Bool.true_and, Bool.and_true, beq_self_eq_true, bne_self_eq_false]
        apply mwp_call_r rfl rfl rfl
        · intro Q hQ
          simp (disch := first | omega | decide) only [go_sem, f0, f1, f2, hd, hsp, q1, q2, q3, p1, p2, p3, q4, peekL, reifyL_nil, reifyL_cons, reify_v, cellsOf_link, cellsOf_lsa, List.append_nil, d33, d77, d10, d01, d10', d00, d11, dtt, dff, dtf, dft, dnt, dnf, deq, Bool.not_true, Bool.not_false, Bool.true_and, Bool.and_true, beq_self_eq_true, bne_self_eq_false]
          exact hQ
        · exact good_Put na a x.o x.s x.nil x.ls (by omega) hza (by omega)
        · simp [-List.map_take, -List.map_drop, -List.map_append, -List.map_replicate, -List.reduceReplicate, noPtrL, noPtr, noPtrL_bsl, noPtrL_map, noPtrL_links, noPtr_lsa, noPtrL_lsas, sub]
        · rw [resOf_own1 (by (simp (disch := decide) only [mset_ne, hr]; done))]
          exact hK _
      apply aops_step (by decide) rfl
      · intro K hK
        simp (disch := first | omega | decide) only [go_sem, f0, f1, f2, hd, hsp, q1, q2, q3, p1, p2, p3, q4, cellsOf_link, cellsOf_lsa, List.append_nil, d33, d77, d10, d01, d10', d00, d11, dtt, dff, dtf, dft, dnt, dnf, deq, Bool.not_true, Bool.not_false, Bool.true_and, Bool.and_true, beq_self_eq_true, bne_self_eq_false]
        rw [asg_tmp (by simp (disch := first | omega | decide) only [go_sem, f0, f1, f2, hd, hsp, q1, q2, q3, p1, p2, p3, q4, cellsOf_link, cellsOf_lsa, List.append_nil, d33, d77, d10, d01, d10', d00, d11, dtt, dff, dtf, dft, dnt, dnf, deq, Bool.not_true, Bool.not_false, Bool.true_and, Bool.and_true, beq_self_eq_true, bne_self_eq_false]; rfl)]
        exact hK _
      refine aops_nil ?_
      refine AW.seq ?_
      refine AW.seq ?_
      refine AW.region (cfg := cfg) ?_
      apply aops_step (by decide) rfl
      · intro K hK
        simp (disch := first | omega | decide) only [go_sem, f0, f1, f2, hd, hsp, q1, q2, q3, p1, p2, p3, q4, act_load_t ti24, List.map, cellsOf_link, cellsOf_lsa, List.append_nil, d33, d77, d10, d01, d10', d00, d11, dtt, dff, dtf, dft, dnt, dnf, deq, Bool.not_true, Bool.not_false, Bool.true_and, Bool.and_true, beq_self_eq_true, bne_self_eq_false]
        rw [mwp_load_bs (by simp (disch := first | omega | decide) only [go_sem, f0, f1, f2, hd, hsp, q1, q2, q3, p1, p2, p3, q4, cellsOf_link, cellsOf_lsa, List.append_nil, d33, d77, d10, d01, d10', d00, d11, dtt, dff, dtf, dft, dnt, dnf, deq, Bool.not_true, Bool.not_false, Bool.true_and, Bool.and_true, beq_self_eq_true, bne_self_eq_false]; rfl) (by simp [setAt])]
        exact hK _
      apply aops_step (by decide) rfl
      · intro K hK
        simp (disch := first | omega | decide) only [go_sem, f0, f1, f2, hd, hsp, q1, q2, q3, p1, p2, p3, q4, act_call, List.map, cellsOf_link, cellsOf_lsa, List.append_nil, d33, d77, d10, d01, d10', d00, d11, dtt, dff, dtf, dft, dnt, dnf, deq, Bool.not_true, Bool.not_false, Bool.true_and, Bool.and_true, beq_self_eq_true, bne_self_eq_false]
        apply mwp_call_s rfl rfl rfl
        · intro Q hQ
          simp (disch := first | omega | decide) only [go_sem, f0, f1, f2, hd, hsp, q1, q2, q3, p1, p2, p3, q4, peekL, reifyL_nil, reifyL_cons, reify_v, cellsOf_link, cellsOf_lsa, List.append_nil, d33, d77, d10, d01, d10', d00, d11, dtt, dff, dtf, dft, dnt, dnf, deq, Bool.not_true, Bool.not_false, Bool.true_and, Bool.and_true, beq_self_eq_true, bne_self_eq_false]
          exact hQ
        · exact good_Check x.o x.s x.nil x.ls (by omega)
        · simp [-List.map_take, -List.map_drop, -List.map_append, -List.map_replicate, -List.reduceReplicate, noPtrL, noPtr, noPtrL_bsl, noPtrL_map, noPtrL_links, noPtr_lsa, noPtrL_lsas, sub]
        · rfl
        · exact hK _
      iterate 4 (apply aops_step (by decide) rfl; · (intro K hK; simp (disch := first | omega | decide) only [go_sem, f0, f1, f2, hd, hsp, q1, q2, q3, p1, p2, p3, q4, bin_neq_b u4, cellsOf_link, cellsOf_lsa, List.append_nil, d33, d77, d10, d01, d10', d00, d11, dtt, dff, dtf, dft, dnt, dnf, deq, Bool.not_true, Bool.not_false, Bool.true_and, Bool.and_true, beq_self_eq_true, bne_self_eq_false]; exact hK _))
      apply aops_step (by decide) rfl
      · intro K hK
        simp (disch := first | omega | decide) only [go_sem, f0, f1, f2, hd, hsp, q1, q2, q3, p1, p2, p3, q4, act_load_t ti24, List.map, cellsOf_link, cellsOf_lsa, List.append_nil, d33, d77, d10, d01, d10', d00, d11, dtt, dff, dtf, dft, dnt, dnf, deq, Bool.not_true, Bool.not_false, Bool.true_and, Bool.and_true, beq_self_eq_true, bne_self_eq_false]
        rw [mwp_load_bs (by simp (disch := first | omega | decide) only [go_sem, f0, f1, f2, hd, hsp, q1, q2, q3, p1, p2, p3, q4, cellsOf_link, cellsOf_lsa, List.append_nil, d33, d77, d10, d01, d10', d00, d11, dtt, dff, dtf, dft, dnt, dnf, deq, Bool.not_true, Bool.not_false, Bool.true_and, Bool.and_true, beq_self_eq_true, bne_self_eq_false]; rfl) (by simp [setAt])]
        exact hK _
      apply aops_step (by decide) rfl
      · intro K hK
        simp (disch := first | omega | decide) only [go_sem, f0, f1, f2, hd, hsp, q1, q2, q3, p1, p2, p3, q4, act_call, List.map, cellsOf_link, cellsOf_lsa, List.append_nil, d33, d77, d10, d01, d10', d00, d11, dtt, dff, dtf, dft, dnt, dnf, deq, Bool.not_true, Bool.not_false, Bool.true_and, Bool.and_true, beq_self_eq_true, bne_self_eq_false]
        apply mwp_call_s rfl rfl rfl
        · intro Q hQ
          simp (disch := first | omega | decide) only [go_sem, f0, f1, f2, hd, hsp, q1, q2, q3, p1, p2, p3, q4, peekL, reifyL_nil, reifyL_cons, reify_v, cellsOf_link, cellsOf_lsa, List.append_nil, d33, d77, d10, d01, d10', d00, d11, dtt, dff, dtf, dft, dnt, dnf, deq, Bool.not_true, Bool.not_false, Bool.true_and, Bool.and_true, beq_self_eq_true, bne_self_eq_false]
          exact hQ
        · exact good_Check x.o x.s x.nil x.ls (by omega)
        · simp [-List.map_take, -List.map_drop, -List.map_append, -List.map_replicate, -List.reduceReplicate, noPtrL, noPtr, noPtrL_bsl, noPtrL_map, noPtrL_links, noPtr_lsa, noPtrL_lsas, sub]
        · rfl
        · exact hK _
      iterate 5 (apply aops_step (by decide) rfl; · (intro K hK; simp (disch := first | omega | decide) only [go_sem, f0, f1, f2, hd, hsp, q1, q2, q3, p1, p2, p3, q4, bin_neq_b u4, cellsOf_link, cellsOf_lsa, List.append_nil, d33, d77, d10, d01, d10', d00, d11, dtt, dff, dtf, dft, dnt, dnf, deq, Bool.not_true, Bool.not_false, Bool.true_and, Bool.and_true, beq_self_eq_true, bne_self_eq_false]; exact hK _))
      refine aops_nil ?_
      apply AW.cond
      · simp (disch := first | omega | decide) only [go_sem, f0, f1, f2, hd, hsp, q1, q2, q3, p1, p2, p3, q4, cellsOf_link, cellsOf_lsa, List.append_nil, d33, d77, d10, d01, d10', d00, d11, dtt, dff, dtf, dft, dnt, dnf, deq, Bool.not_true, Bool.not_false, Bool.true_and, Bool.and_true, beq_self_eq_true, bne_self_eq_false]; rfl
      case ht => intro hb; simp at hb
      case hf =>
      intro hb
      have hbt44 := hb
      refine AW.skip ?_
      refine AW.seq ?_
      refine AW.seq ?_
      refine AW.region (cfg := cfg) ?_
      iterate 2 (apply aops_step (by decide) rfl; · (intro K hK; simp (disch := first | omega | decide) only [go_sem, f0, f1, f2, hd, hsp, q1, q2, q3, p1, p2, p3, q4, cellsOf_link, cellsOf_lsa, List.append_nil, d33, d77, d10, d01, d10', d00, d11, dtt, dff, dtf, dft, dnt, dnf, deq, Bool.not_true, Bool.not_false, Bool.true_and, Bool.and_true, beq_self_eq_true, bne_self_eq_false]; exact hK _))
      refine aops_nil ?_
      apply AW.cond
      · simp (disch := first | omega | decide) only [go_sem, f0, f1, f2, hd, hsp, q1, q2, q3, p1, p2, p3, q4, cellsOf_link, cellsOf_lsa, List.append_nil, d33, d77, d10, d01, d10', d00, d11, dtt, dff, dtf, dft, dnt, dnf, deq, Bool.not_true, Bool.not_false, Bool.true_and, Bool.and_true, beq_self_eq_true, bne_self_eq_false]; rfl
      case ht => intro hb; simp at hb
      case hf =>
      intro hb
      have hbt46 := hb
      refine AW.skip ?_
      refine AW.seq ?_
      refine AW.region (cfg := cfg) ?_
      apply aops_step (by decide) rfl
      · intro K hK
        simp (disch := first | omega | decide) only [go_sem, f0, f1, f2, hd, hsp, q1, q2, q3, p1, p2, p3, q4, act_load_t ti24, List.map, cellsOf_link, cellsOf_lsa, List.append_nil, d33, d77, d10, d01, d10', d00, d11, dtt, dff, dtf, dft, dnt, dnf, deq, Bool.not_true, Bool.not_false, Bool.true_and, Bool.and_true, beq_self_eq_true, bne_self_eq_false]
        rw [mwp_load_bs (by simp (disch := first | omega | decide) only [go_sem, f0, f1, f2, hd, hsp, q1, q2, q3, p1, p2, p3, q4, cellsOf_link, cellsOf_lsa, List.append_nil, d33, d77, d10, d01, d10', d00, d11, dtt, dff, dtf, dft, dnt, dnf, deq, Bool.not_true, Bool.not_false, Bool.true_and, Bool.and_true, beq_self_eq_true, bne_self_eq_false]; rfl) (by simp [setAt])]
        exact hK _
      apply aops_step (by decide) rfl
      · intro K hK
        simp (disch := first | omega | decide) only [go_sem, f0, f1, f2, hd, hsp, q1, q2, q3, p1, p2, p3, q4, act_call, List.map, cellsOf_link, cellsOf_lsa, List.append_nil, d33, d77, d10, d01, d10', d00, d11, dtt, dff, dtf, dft, dnt, dnf, deq, Bool.not_true, Bool.not_false, Bool.true_and, Bool.and_true, beq_self_eq_true, bne_self_eq_false]
        apply mwp_call_r rfl rfl rfl
        · intro Q hQ
          simp (disch := first | omega | decide) only [go_sem, f0, f1, f2, hd, hsp, q1, q2, q3, p1, p2, p3, q4, peekL, reifyL_nil, reifyL_cons, reify_v, cellsOf_link, cellsOf_lsa, List.append_nil, d33, d77, d10, d01, d10', d00, d11, dtt, dff, dtf, dft, dnt, dnf, deq, Bool.not_true, Bool.not_false, Bool.true_and, Bool.and_true, beq_self_eq_true, bne_self_eq_false]
          exact hQ
        · exact good_refPut x.o x.s x.nil x.ls hsp
        · simp [-List.map_take, -List.map_drop, -List.map_append, -List.map_replicate, -List.reduceReplicate, noPtrL, noPtr, noPtrL_bsl, noPtrL_map, noPtrL_links, noPtr_lsa, noPtrL_lsas, sub]
        · rw [resOf_own1 (by (simp (disch := decide) only [mset_ne, hr]; done))]
          exact hK _
      apply aops_step (by decide) rfl
      · intro K hK
        simp (disch := first | omega | decide) only [go_sem, f0, f1, f2, hd, hsp, q1, q2, q3, p1, p2, p3, q4, cellsOf_link, cellsOf_lsa, List.append_nil, d33, d77, d10, d01, d10', d00, d11, dtt, dff, dtf, dft, dnt, dnf, deq, Bool.not_true, Bool.not_false, Bool.true_and, Bool.and_true, beq_self_eq_true, bne_self_eq_false]
        rw [asg_tmp (by simp (disch := first | omega | decide) only [go_sem, f0, f1, f2, hd, hsp, q1, q2, q3, p1, p2, p3, q4, cellsOf_link, cellsOf_lsa, List.append_nil, d33, d77, d10, d01, d10', d00, d11, dtt, dff, dtf, dft, dnt, dnf, deq, Bool.not_true, Bool.not_false, Bool.true_and, Bool.and_true, beq_self_eq_true, bne_self_eq_false]; rfl)]
        exact hK _
      refine aops_nil ?_
      refine AW.seq ?_
      refine AW.region (cfg := cfg) ?_
      apply aops_step (by decide) rfl
      · intro K hK
        rw [act_bs el25 ti5]
        (simp [-List.map_take, -List.map_drop, -BitVec.toNat_ofInt, -BitVec.ofInt_natCast, -BitVec.toNat_setWidth, -BitVec.toNat_ushiftRight, -BitVec.toNat_umod, -BitVec.toNat_udiv, go_sem, elems_v, cellishAV, Value.oneCell', isAggAV, partsOf, TI.z, TI.mk1, f0, f1, f2, hd, hsp, q1, q2, q3, p1, p2, p3, q4]; exact hK _)
      iterate 1 (apply aops_step (by decide) rfl; · (intro K hK; simp (disch := first | omega | decide) only [go_sem, f0, f1, f2, hd, hsp, q1, q2, q3, p1, p2, p3, q4, cellsOf_link, cellsOf_lsa, List.append_nil, d33, d77, d10, d01, d10', d00, d11, dtt, dff, dtf, dft, dnt, dnf, deq, Bool.not_true, Bool.not_false, Bool.true_and, Bool.and_true, beq_self_eq_true, bne_self_eq_false]; exact hK _))
      apply aops_step (by decide) rfl
      · intro K hK
        simp (disch := first | omega | decide) only [go_sem, f0, f1, f2, hd, hsp, q1, q2, q3, p1, p2, p3, q4, List.map, cellsOf_link, cellsOf_lsa, List.append_nil, d33, d77, d10, d01, d10', d00, d11, dtt, dff, dtf, dft, dnt, dnf, deq, Bool.not_true, Bool.not_false, Bool.true_and, Bool.and_true, beq_self_eq_true, bne_self_eq_false]
        apply mwp_append2 el25 ti5 u25
        case hpk => intro Q hQ; (rw [peek_own (by simp (disch := first | omega | decide) only [go_sem, f0, f1, f2, hd, hsp, q1, q2, q3, p1, p2, p3, q4, cellsOf_link, cellsOf_lsa, List.append_nil, d33, d77, d10, d01, d10', d00, d11, dtt, dff, dtf, dft, dnt, dnf, deq, Bool.not_true, Bool.not_false, Bool.true_and, Bool.and_true, beq_self_eq_true, bne_self_eq_false]; rfl)]; (try rw [sub_full (by rfl)]); exact hQ)
        case hs' => rfl
        case ho => simp (disch := first | omega | decide) only [go_sem, f0, f1, f2, hd, hsp, q1, q2, q3, p1, p2, p3, q4, cellsOf_link, cellsOf_lsa, List.append_nil, d33, d77, d10, d01, d10', d00, d11, dtt, dff, dtf, dft, dnt, dnf, deq, Bool.not_true, Bool.not_false, Bool.true_and, Bool.and_true, beq_self_eq_true, bne_self_eq_false]; rfl
        case hsz => rfl
        case hhi => (simp [lsaB_len]; done)
        case hb => (simp [sub, roomB, lsaB_len]; omega)
        case hy => (simp [sub, cellsOf]; done)
        case k => (try simp only [List.nil_append, ← List.map_append, Bool.false_and]); exact hK _
      iterate 1 (apply aops_step (by decide) rfl; · (intro K hK; simp (disch := first | omega | decide) only [go_sem, f0, f1, f2, hd, hsp, q1, q2, q3, p1, p2, p3, q4, cellsOf_link, cellsOf_lsa, List.append_nil, d33, d77, d10, d01, d10', d00, d11, dtt, dff, dtf, dft, dnt, dnf, deq, Bool.not_true, Bool.not_false, Bool.true_and, Bool.and_true, beq_self_eq_true, bne_self_eq_false]; exact hK _))
      apply aops_step (by decide) rfl
      · intro K hK
        simp (disch := first | omega | decide) only [go_sem, f0, f1, f2, hd, hsp, q1, q2, q3, p1, p2, p3, q4, List.map, cellsOf_link, cellsOf_lsa, List.append_nil, d33, d77, d10, d01, d10', d00, d11, dtt, dff, dtf, dft, dnt, dnf, deq, Bool.not_true, Bool.not_false, Bool.true_and, Bool.and_true, beq_self_eq_true, bne_self_eq_false]
        apply mwp_append2 el25 ti5 u25
        case hpk => intro Q hQ; exact hQ
        case hs' => rfl
        case ho => simp (disch := first | omega | decide) only [go_sem, f0, f1, f2, hd, hsp, q1, q2, q3, p1, p2, p3, q4, cellsOf_link, cellsOf_lsa, List.append_nil, d33, d77, d10, d01, d10', d00, d11, dtt, dff, dtf, dft, dnt, dnf, deq, Bool.not_true, Bool.not_false, Bool.true_and, Bool.and_true, beq_self_eq_true, bne_self_eq_false]; rfl
        case hsz => rfl
        case hhi => (simp [lsaB_len]; done)
        case hb => (simp [sub, roomB, lsaB_len]; omega)
        case hy => (simp [sub, cellsOf]; done)
        case k => (try simp only [List.nil_append, ← List.map_append, Bool.false_and]); exact hK _
      apply aops_step (by decide) rfl
      · intro K hK
        simp (disch := first | omega | decide) only [go_sem, f0, f1, f2, hd, hsp, q1, q2, q3, p1, p2, p3, q4, act_call, List.map, cellsOf_link, cellsOf_lsa, List.append_nil, d33, d77, d10, d01, d10', d00, d11, dtt, dff, dtf, dft, dnt, dnf, deq, Bool.not_true, Bool.not_false, Bool.true_and, Bool.and_true, beq_self_eq_true, bne_self_eq_false]
        apply mwp_call_g rfl rfl rfl
        · intro Q hQ
          simp (disch := first | omega | decide) only [go_sem, f0, f1, f2, hd, hsp, q1, q2, q3, p1, p2, p3, q4, peekL, reifyL_nil, reifyL_cons, reify_v, cellsOf_link, cellsOf_lsa, List.append_nil, d33, d77, d10, d01, d10', d00, d11, dtt, dff, dtf, dft, dnt, dnf, deq, Bool.not_true, Bool.not_false, Bool.true_and, Bool.and_true, beq_self_eq_true, bne_self_eq_false]
          (((rw [mwp_reify_own (by simp (disch := first | omega | decide) only [go_sem, f0, f1, f2, hd, hsp, q1, q2, q3, p1, p2, p3, q4, peekL, reifyL_nil, reifyL_cons, reify_v, cellsOf_link, cellsOf_lsa, List.append_nil, d33, d77, d10, d01, d10', d00, d11, dtt, dff, dtf, dft, dnt, dnf, deq, Bool.not_true, Bool.not_false, Bool.true_and, Bool.and_true, beq_self_eq_true, bne_self_eq_false]; rfl)]); (try rw [sub_full (by (simp [lsaB_len]; done))])); exact hQ)
        · exact hG
        · exact O.good_Read false (lsaB x ++ mo) (by simp [lsaB_len]; omega) (by simp [lsaB_len])
        · simp (disch := first | omega | decide) only [go_sem, f0, f1, f2, hd, hsp, q1, q2, q3, p1, p2, p3, q4, cellsOf_link, cellsOf_lsa, List.append_nil, d33, d77, d10, d01, d10', d00, d11, dtt, dff, dtf, dft, dnt, dnf, deq, Bool.not_true, Bool.not_false, Bool.true_and, Bool.and_true, beq_self_eq_true, bne_self_eq_false]
          exact hK _
      iterate 1 (apply aops_step (by decide) rfl; · (intro K hK; simp (disch := first | omega | decide) only [go_sem, f0, f1, f2, hd, hsp, q1, q2, q3, p1, p2, p3, q4, cellsOf_link, cellsOf_lsa, List.append_nil, d33, d77, d10, d01, d10', d00, d11, dtt, dff, dtf, dft, dnt, dnf, deq, Bool.not_true, Bool.not_false, Bool.true_and, Bool.and_true, beq_self_eq_true, bne_self_eq_false]; exact hK _))
      refine aops_nil ?_
      refine AW.seq ?_
      refine AW.region (cfg := cfg) ?_
      iterate 1 (apply aops_step (by decide) rfl; · (intro K hK; simp (disch := first | omega | decide) only [go_sem, f0, f1, f2, hd, hsp, q1, q2, q3, p1, p2, p3, q4, cellsOf_link, cellsOf_lsa, List.append_nil, d33, d77, d10, d01, d10', d00, d11, dtt, dff, dtf, dft, dnt, dnf, deq, Bool.not_true, Bool.not_false, Bool.true_and, Bool.and_true, beq_self_eq_true, bne_self_eq_false]; exact hK _))
      apply aops_step (by decide) rfl
      · intro K hK
        simp (disch := first | omega | decide) only [go_sem, f0, f1, f2, hd, hsp, q1, q2, q3, p1, p2, p3, q4, act_call, List.map, cellsOf_link, cellsOf_lsa, List.append_nil, d33, d77, d10, d01, d10', d00, d11, dtt, dff, dtf, dft, dnt, dnf, deq, Bool.not_true, Bool.not_false, Bool.true_and, Bool.and_true, beq_self_eq_true, bne_self_eq_false]
        apply mwp_call_g rfl rfl rfl
        · intro Q hQ
          simp (disch := first | omega | decide) only [go_sem, f0, f1, f2, hd, hsp, q1, q2, q3, p1, p2, p3, q4, peekL, reifyL_nil, reifyL_cons, reify_v, cellsOf_link, cellsOf_lsa, List.append_nil, d33, d77, d10, d01, d10', d00, d11, dtt, dff, dtf, dft, dnt, dnf, deq, Bool.not_true, Bool.not_false, Bool.true_and, Bool.and_true, beq_self_eq_true, bne_self_eq_false]
          exact hQ
        · rfl
        · exact good_Read false (lsaB x ++ mo) false (by simp [lsaB_len]; omega) (by simp)
        · simp (disch := first | omega | decide) only [go_sem, f0, f1, f2, hd, hsp, q1, q2, q3, p1, p2, p3, q4, cellsOf_link, cellsOf_lsa, List.append_nil, d33, d77, d10, d01, d10', d00, d11, dtt, dff, dtf, dft, dnt, dnf, deq, Bool.not_true, Bool.not_false, Bool.true_and, Bool.and_true, beq_self_eq_true, bne_self_eq_false]
          exact hK _
      iterate 3 (apply aops_step (by decide) rfl; · (intro K hK; simp (disch := first | omega | decide) only [go_sem, f0, f1, f2, hd, hsp, q1, q2, q3, p1, p2, p3, q4, cellsOf_link, cellsOf_lsa, List.append_nil, d33, d77, d10, d01, d10', d00, d11, dtt, dff, dtf, dft, dnt, dnf, deq, Bool.not_true, Bool.not_false, Bool.true_and, Bool.and_true, beq_self_eq_true, bne_self_eq_false]; exact hK _))
      apply aops_step (by decide) rfl
      · intro K hK
        simp (disch := first | omega | decide) only [go_sem, f0, f1, f2, hd, hsp, q1, q2, q3, p1, p2, p3, q4, act_alloc_t ti24, List.map, cellsOf_link, cellsOf_lsa, List.append_nil, d33, d77, d10, d01, d10', d00, d11, dtt, dff, dtf, dft, dnt, dnf, deq, Bool.not_true, Bool.not_false, Bool.true_and, Bool.and_true, beq_self_eq_true, bne_self_eq_false]
        exact hK _
      apply aops_step0 rfl
      · intro K hK
        simp (disch := first | omega | decide) only [go_sem, f0, f1, f2, hd, hsp, q1, q2, q3, p1, p2, p3, q4, act_store_t ti24, List.map, cellsOf_link, cellsOf_lsa, List.append_nil, d33, d77, d10, d01, d10', d00, d11, dtt, dff, dtf, dft, dnt, dnf, deq, Bool.not_true, Bool.not_false, Bool.true_and, Bool.and_true, beq_self_eq_true, bne_self_eq_false]
        rw [mwp_store_c (by simp (disch := first | omega | decide) only [go_sem, f0, f1, f2, hd, hsp, q1, q2, q3, p1, p2, p3, q4, cellsOf_link, cellsOf_lsa, List.append_nil, d33, d77, d10, d01, d10', d00, d11, dtt, dff, dtf, dft, dnt, dnf, deq, Bool.not_true, Bool.not_false, Bool.true_and, Bool.and_true, beq_self_eq_true, bne_self_eq_false]; rfl) (by rfl) (by rfl) (by rfl) (by simp)]
        try simp only [setAt, cellsL, cellsOf_agg, cellsOf_base, List.map_cons, List.map_nil, List.set_cons_zero, List.set_cons_succ, Nat.reduceAdd, Nat.zero_add, hG]
        exact hK _
      iterate 1 (apply aops_step (by decide) rfl; · (intro K hK; simp (disch := first | omega | decide) only [go_sem, f0, f1, f2, hd, hsp, q1, q2, q3, p1, p2, p3, q4, cellsOf_link, cellsOf_lsa, List.append_nil, d33, d77, d10, d01, d10', d00, d11, dtt, dff, dtf, dft, dnt, dnf, deq, Bool.not_true, Bool.not_false, Bool.true_and, Bool.and_true, beq_self_eq_true, bne_self_eq_false]; exact hK _))
      refine aops_nil ?_
      refine AW.seq ?_
      refine AW.region (cfg := cfg) ?_
      iterate 1 (apply aops_step (by decide) rfl; · (intro K hK; simp (disch := first | omega | decide) only [go_sem, f0, f1, f2, hd, hsp, q1, q2, q3, p1, p2, p3, q4, cellsOf_link, cellsOf_lsa, List.append_nil, d33, d77, d10, d01, d10', d00, d11, dtt, dff, dtf, dft, dnt, dnf, deq, Bool.not_true, Bool.not_false, Bool.true_and, Bool.and_true, beq_self_eq_true, bne_self_eq_false]; exact hK _))
      apply aops_step (by decide) rfl
      · intro K hK
        rw [act_bs el25 ti5]
        (simp [-List.map_take, -List.map_drop, -BitVec.toNat_ofInt, -BitVec.ofInt_natCast, -BitVec.toNat_setWidth, -BitVec.toNat_ushiftRight, -BitVec.toNat_umod, -BitVec.toNat_udiv, go_sem, elems_v, cellishAV, Value.oneCell', isAggAV, partsOf, TI.z, TI.mk1, f0, f1, f2, hd, hsp, q1, q2, q3, p1, p2, p3, q4]; exact hK _)
      iterate 1 (apply aops_step (by decide) rfl; · (intro K hK; simp (disch := first | omega | decide) only [go_sem, f0, f1, f2, hd, hsp, q1, q2, q3, p1, p2, p3, q4, cellsOf_link, cellsOf_lsa, List.append_nil, d33, d77, d10, d01, d10', d00, d11, dtt, dff, dtf, dft, dnt, dnf, deq, Bool.not_true, Bool.not_false, Bool.true_and, Bool.and_true, beq_self_eq_true, bne_self_eq_false]; exact hK _))
      apply aops_step (by decide) rfl
      · intro K hK
        simp (disch := first | omega | decide) only [go_sem, f0, f1, f2, hd, hsp, q1, q2, q3, p1, p2, p3, q4, List.map, cellsOf_link, cellsOf_lsa, List.append_nil, d33, d77, d10, d01, d10', d00, d11, dtt, dff, dtf, dft, dnt, dnf, deq, Bool.not_true, Bool.not_false, Bool.true_and, Bool.and_true, beq_self_eq_true, bne_self_eq_false]
        apply mwp_append2 el25 ti5 u25
        case hpk => intro Q hQ; exact hQ
        case hs' => rfl
        case ho => simp (disch := first | omega | decide) only [go_sem, f0, f1, f2, hd, hsp, q1, q2, q3, p1, p2, p3, q4, cellsOf_link, cellsOf_lsa, List.append_nil, d33, d77, d10, d01, d10', d00, d11, dtt, dff, dtf, dft, dnt, dnf, deq, Bool.not_true, Bool.not_false, Bool.true_and, Bool.and_true, beq_self_eq_true, bne_self_eq_false]; rfl
        case hsz => rfl
        case hhi => (simp [lsaB_len]; done)
        case hb => (simp only [List.length_cons, List.length_nil, List.length_map, Nat.zero_add, Nat.reduceAdd, roomB]; omega)
        case hy => (simp [sub, cellsOf]; done)
        case k => (try simp only [List.nil_append, ← List.map_append, Bool.false_and]); exact hK _
      iterate 1 (apply aops_step (by decide) rfl; · (intro K hK; simp (disch := first | omega | decide) only [go_sem, f0, f1, f2, hd, hsp, q1, q2, q3, p1, p2, p3, q4, cellsOf_link, cellsOf_lsa, List.append_nil, d33, d77, d10, d01, d10', d00, d11, dtt, dff, dtf, dft, dnt, dnf, deq, Bool.not_true, Bool.not_false, Bool.true_and, Bool.and_true, beq_self_eq_true, bne_self_eq_false]; exact hK _))
      apply aops_step (by decide) rfl
      · intro K hK
        simp (disch := first | omega | decide) only [go_sem, f0, f1, f2, hd, hsp, q1, q2, q3, p1, p2, p3, q4, List.map, cellsOf_link, cellsOf_lsa, List.append_nil, d33, d77, d10, d01, d10', d00, d11, dtt, dff, dtf, dft, dnt, dnf, deq, Bool.not_true, Bool.not_false, Bool.true_and, Bool.and_true, beq_self_eq_true, bne_self_eq_false]
        apply mwp_append2 el25 ti5 u25
        case hpk => intro Q hQ; (rw [peek_own (by simp (disch := first | omega | decide) only [go_sem, f0, f1, f2, hd, hsp, q1, q2, q3, p1, p2, p3, q4, cellsOf_link, cellsOf_lsa, List.append_nil, d33, d77, d10, d01, d10', d00, d11, dtt, dff, dtf, dft, dnt, dnf, deq, Bool.not_true, Bool.not_false, Bool.true_and, Bool.and_true, beq_self_eq_true, bne_self_eq_false]; rfl)]; (try rw [sub_full (by rfl)]); exact hQ)
        case hs' => rfl
        case ho => simp (disch := first | omega | decide) only [go_sem, f0, f1, f2, hd, hsp, q1, q2, q3, p1, p2, p3, q4, cellsOf_link, cellsOf_lsa, List.append_nil, d33, d77, d10, d01, d10', d00, d11, dtt, dff, dtf, dft, dnt, dnf, deq, Bool.not_true, Bool.not_false, Bool.true_and, Bool.and_true, beq_self_eq_true, bne_self_eq_false]; rfl
        case hsz => rfl
        case hhi => (simp [lsaB_len]; done)
        case hb => (simp [sub, roomB, lsaB_len]; omega)
        case hy => (simp [sub, cellsOf]; done)
        case k => (try simp only [List.nil_append, ← List.map_append, Bool.false_and]); exact hK _
      apply aops_step (by decide) rfl
      · intro K hK
        simp (disch := first | omega | decide) only [go_sem, f0, f1, f2, hd, hsp, q1, q2, q3, p1, p2, p3, q4, act_call, List.map, cellsOf_link, cellsOf_lsa, List.append_nil, d33, d77, d10, d01, d10', d00, d11, dtt, dff, dtf, dft, dnt, dnf, deq, Bool.not_true, Bool.not_false, Bool.true_and, Bool.and_true, beq_self_eq_true, bne_self_eq_false]
        apply mwp_call_s rfl rfl rfl
        · intro Q hQ
          simp (disch := first | omega | decide) only [go_sem, f0, f1, f2, hd, hsp, q1, q2, q3, p1, p2, p3, q4, peekL, reifyL_nil, reifyL_cons, reify_v, cellsOf_link, cellsOf_lsa, List.append_nil, d33, d77, d10, d01, d10', d00, d11, dtt, dff, dtf, dft, dnt, dnf, deq, Bool.not_true, Bool.not_false, Bool.true_and, Bool.and_true, beq_self_eq_true, bne_self_eq_false]
          (((rw [peek_own (by simp (disch := first | omega | decide) only [go_sem, f0, f1, f2, hd, hsp, q1, q2, q3, p1, p2, p3, q4, peekL, reifyL_nil, reifyL_cons, reify_v, cellsOf_link, cellsOf_lsa, List.append_nil, d33, d77, d10, d01, d10', d00, d11, dtt, dff, dtf, dft, dnt, dnf, deq, Bool.not_true, Bool.not_false, Bool.true_and, Bool.and_true, beq_self_eq_true, bne_self_eq_false]; rfl)]); (try rw [sub_full (by rfl)])); (try simp (disch := first | omega | decide) only [go_sem, f0, f1, f2, hd, hsp, q1, q2, q3, p1, p2, p3, q4, peekL, reifyL_nil, reifyL_cons, reify_v, cellsOf_link, cellsOf_lsa, List.append_nil, d33, d77, d10, d01, d10', d00, d11, dtt, dff, dtf, dft, dnt, dnf, deq, Bool.not_true, Bool.not_false, Bool.true_and, Bool.and_true, beq_self_eq_true, bne_self_eq_false]); ((rw [peek_own (by simp (disch := first | omega | decide) only [go_sem, f0, f1, f2, hd, hsp, q1, q2, q3, p1, p2, p3, q4, peekL, reifyL_nil, reifyL_cons, reify_v, cellsOf_link, cellsOf_lsa, List.append_nil, d33, d77, d10, d01, d10', d00, d11, dtt, dff, dtf, dft, dnt, dnf, deq, Bool.not_true, Bool.not_false, Bool.true_and, Bool.and_true, beq_self_eq_true, bne_self_eq_false]; rfl)]); (try rw [sub_full (by (simp [lsaB_len]; done))])); exact hQ)
        · exact O.good_Same _ _ _ _ (by (simp [lsaB_len]; omega)) (by (simp [lsaB_len]; omega))
        · simp [-List.map_take, -List.map_drop, -List.map_append, -List.map_replicate, -List.reduceReplicate, noPtrL, noPtr, noPtrL_bsl, noPtrL_map, noPtrL_links, noPtr_lsa, noPtrL_lsas, sub]
        · rfl
        · exact hK _
      iterate 4 (apply aops_step (by decide) rfl; · (intro K hK; simp (disch := first | omega | decide) only [go_sem, f0, f1, f2, hd, hsp, q1, q2, q3, p1, p2, p3, q4, cellsOf_link, cellsOf_lsa, List.append_nil, d33, d77, d10, d01, d10', d00, d11, dtt, dff, dtf, dft, dnt, dnf, deq, Bool.not_true, Bool.not_false, Bool.true_and, Bool.and_true, beq_self_eq_true, bne_self_eq_false]; exact hK _))
      apply aops_step (by decide) rfl
      · intro K hK
        simp (disch := first | omega | decide) only [go_sem, f0, f1, f2, hd, hsp, q1, q2, q3, p1, p2, p3, q4, act_load_t ti24, List.map, cellsOf_link, cellsOf_lsa, List.append_nil, d33, d77, d10, d01, d10', d00, d11, dtt, dff, dtf, dft, dnt, dnf, deq, Bool.not_true, Bool.not_false, Bool.true_and, Bool.and_true, beq_self_eq_true, bne_self_eq_false]
        rw [mwp_load_bs (by simp (disch := first | omega | decide) only [go_sem, f0, f1, f2, hd, hsp, q1, q2, q3, p1, p2, p3, q4, cellsOf_link, cellsOf_lsa, List.append_nil, d33, d77, d10, d01, d10', d00, d11, dtt, dff, dtf, dft, dnt, dnf, deq, Bool.not_true, Bool.not_false, Bool.true_and, Bool.and_true, beq_self_eq_true, bne_self_eq_false]; rfl) (by simp [setAt])]
        exact hK _
      apply aops_step (by decide) rfl
      · intro K hK
        simp (disch := first | omega | decide) only [go_sem, f0, f1, f2, hd, hsp, q1, q2, q3, p1, p2, p3, q4, act_load_t ti24, List.map, cellsOf_link, cellsOf_lsa, List.append_nil, d33, d77, d10, d01, d10', d00, d11, dtt, dff, dtf, dft, dnt, dnf, deq, Bool.not_true, Bool.not_false, Bool.true_and, Bool.and_true, beq_self_eq_true, bne_self_eq_false]
        rw [mwp_load_bs (by simp (disch := first | omega | decide) only [go_sem, f0, f1, f2, hd, hsp, q1, q2, q3, p1, p2, p3, q4, cellsOf_link, cellsOf_lsa, List.append_nil, d33, d77, d10, d01, d10', d00, d11, dtt, dff, dtf, dft, dnt, dnf, deq, Bool.not_true, Bool.not_false, Bool.true_and, Bool.and_true, beq_self_eq_true, bne_self_eq_false]; rfl) (by simp [setAt])]
        exact hK _
      apply aops_step (by decide) rfl
      · intro K hK
        simp (disch := first | omega | decide) only [go_sem, f0, f1, f2, hd, hsp, q1, q2, q3, p1, p2, p3, q4, act_call, List.map, cellsOf_link, cellsOf_lsa, List.append_nil, d33, d77, d10, d01, d10', d00, d11, dtt, dff, dtf, dft, dnt, dnf, deq, Bool.not_true, Bool.not_false, Bool.true_and, Bool.and_true, beq_self_eq_true, bne_self_eq_false]
        apply mwp_call_s rfl rfl rfl
        · intro Q hQ
          simp (disch := first | omega | decide) only [go_sem, f0, f1, f2, hd, hsp, q1, q2, q3, p1, p2, p3, q4, peekL, reifyL_nil, reifyL_cons, reify_v, cellsOf_link, cellsOf_lsa, List.append_nil, d33, d77, d10, d01, d10', d00, d11, dtt, dff, dtf, dft, dnt, dnf, deq, Bool.not_true, Bool.not_false, Bool.true_and, Bool.and_true, beq_self_eq_true, bne_self_eq_false]
          exact hQ
        · exact good_refSame ⟨x.o, x.s, x.ls.isEmpty, x.ls⟩ (by show x.ls.length ≤ _; omega) x (by omega)
        · simp [-List.map_take, -List.map_drop, -List.map_append, -List.map_replicate, -List.reduceReplicate, noPtrL, noPtr, noPtrL_bsl, noPtrL_map, noPtrL_links, noPtr_lsa, noPtrL_lsas, sub]
        · rfl
        · exact hK _
      iterate 3 (apply aops_step (by decide) rfl; · (intro K hK; simp (disch := first | omega | decide) only [go_sem, f0, f1, f2, hd, hsp, q1, q2, q3, p1, p2, p3, q4, cellsOf_link, cellsOf_lsa, List.append_nil, d33, d77, d10, d01, d10', d00, d11, dtt, dff, dtf, dft, dnt, dnf, deq, Bool.not_true, Bool.not_false, Bool.true_and, Bool.and_true, beq_self_eq_true, bne_self_eq_false]; exact hK _))
      apply aops_step (by decide) rfl
      · intro K hK
        simp (disch := first | omega | decide) only [go_sem, f0, f1, f2, hd, hsp, q1, q2, q3, p1, p2, p3, q4, act_call, List.map, cellsOf_link, cellsOf_lsa, List.append_nil, d33, d77, d10, d01, d10', d00, d11, dtt, dff, dtf, dft, dnt, dnf, deq, Bool.not_true, Bool.not_false, Bool.true_and, Bool.and_true, beq_self_eq_true, bne_self_eq_false]
        apply mwp_call_g rfl rfl rfl
        · intro Q hQ
          simp (disch := first | omega | decide) only [go_sem, f0, f1, f2, hd, hsp, q1, q2, q3, p1, p2, p3, q4, peekL, reifyL_nil, reifyL_cons, reify_v, cellsOf_link, cellsOf_lsa, List.append_nil, d33, d77, d10, d01, d10', d00, d11, dtt, dff, dtf, dft, dnt, dnf, deq, Bool.not_true, Bool.not_false, Bool.true_and, Bool.and_true, beq_self_eq_true, bne_self_eq_false]
          exact hQ
        · rfl
        · exact O.good_Left false _ _ (by omega) (by simp)
        · simp (disch := first | omega | decide) only [go_sem, f0, f1, f2, hd, hsp, q1, q2, q3, p1, p2, p3, q4, cellsOf_link, cellsOf_lsa, List.append_nil, d33, d77, d10, d01, d10', d00, d11, dtt, dff, dtf, dft, dnt, dnf, deq, Bool.not_true, Bool.not_false, Bool.true_and, Bool.and_true, beq_self_eq_true, bne_self_eq_false]
          exact hK _
      iterate 5 (apply aops_step (by decide) rfl; · (intro K hK; simp (disch := first | omega | decide) only [go_sem, f0, f1, f2, hd, hsp, q1, q2, q3, p1, p2, p3, q4, List.map, List.length_map, aops_len u25, cellsOf_link, cellsOf_lsa, List.append_nil, d33, d77, d10, d01, d10', d00, d11, dtt, dff, dtf, dft, dnt, dnf, deq, Bool.not_true, Bool.not_false, Bool.true_and, Bool.and_true, beq_self_eq_true, bne_self_eq_false]; exact hK _))
      apply aops_step (by decide) rfl
      · intro K hK
        simp (disch := first | omega | decide) only [go_sem, f0, f1, f2, hd, hsp, q1, q2, q3, p1, p2, p3, q4, act_call, List.map, cellsOf_link, cellsOf_lsa, List.append_nil, d33, d77, d10, d01, d10', d00, d11, dtt, dff, dtf, dft, dnt, dnf, deq, Bool.not_true, Bool.not_false, Bool.true_and, Bool.and_true, beq_self_eq_true, bne_self_eq_false]
        apply mwp_call_s rfl rfl rfl
        · intro Q hQ
          simp (disch := first | omega | decide) only [go_sem, f0, f1, f2, hd, hsp, q1, q2, q3, p1, p2, p3, q4, peekL, reifyL_nil, reifyL_cons, reify_v, cellsOf_link, cellsOf_lsa, List.append_nil, d33, d77, d10, d01, d10', d00, d11, dtt, dff, dtf, dft, dnt, dnf, deq, Bool.not_true, Bool.not_false, Bool.true_and, Bool.and_true, beq_self_eq_true, bne_self_eq_false]
          exact hQ
        · exact L.good_awake
        · simp [-List.map_take, -List.map_drop, -List.map_append, -List.map_replicate, -List.reduceReplicate, noPtrL, noPtr, noPtrL_bsl, noPtrL_map, noPtrL_links, noPtr_lsa, noPtrL_lsas, sub]
        · rfl
        · exact hK _
      iterate 2 (apply aops_step (by decide) rfl; · (intro K hK; simp (disch := first | omega | decide) only [go_sem, f0, f1, f2, hd, hsp, q1, q2, q3, p1, p2, p3, q4, cellsOf_link, cellsOf_lsa, List.append_nil, d33, d77, d10, d01, d10', d00, d11, dtt, dff, dtf, dft, dnt, dnf, deq, Bool.not_true, Bool.not_false, Bool.true_and, Bool.and_true, beq_self_eq_true, bne_self_eq_false]; exact hK _))
      refine aops_nil ?_
      refine AW.ret ?_
      refine ⟨.inr rfl, ?_⟩
      apply Exists.intro
      refine leaves_tmp1 6 rfl ?_ (by rfl)
      simp (disch := first | omega | decide) only [go_sem, f0, f1, f2, hd, hsp, q1, q2, q3, p1, p2, p3, q4, cellsOf_link, cellsOf_lsa, List.append_nil, d33, d77, d10, d01, d10', d00, d11, dtt, dff, dtf, dft, dnt, dnf, deq, Bool.not_true, Bool.not_false, Bool.true_and, Bool.and_true, beq_self_eq_true, bne_self_eq_false]
      all_goals rfl
    · have hd := decide_eq_false hsp
      have hsp := Bool.eq_false_iff.2 hsp
      obtain ⟨q1, q2, q3⟩ := ok_no0 hsp
      have p1 := d00
      have p2 := d00
      have p3 := d00
      have q4 := d00
      refine AW.region (cfg := cfg) ?_
      apply aops_step (by decide) rfl
      · intro K hK
        simp (disch := first | omega | decide) only [go_sem, f0, f1, f2, hd, hsp, q1, q2, q3, p1, p2, p3, q4, act_load_t ti24, List.map, cellsOf_link, cellsOf_lsa, List.append_nil, d33, d77, d10, d01, d10', d00, d11, dtt, dff, dtf, dft, dnt, dnf, deq, Bool.not_true, Bool.not_false, Bool.true_and, Bool.and_true, beq_self_eq_true, bne_self_eq_false]
        rw [mwp_load_bs (by simp (disch := first | omega | decide) only [go_sem, f0, f1, f2, hd, hsp, q1, q2, q3, p1, p2, p3, q4, cellsOf_link, cellsOf_lsa, List.append_nil, d33, d77, d10, d01, d10', d00, d11, dtt, dff, dtf, dft, dnt, dnf, deq, Bool.not_true, Bool.not_false, Bool.true_and, Bool.and_true, beq_self_eq_true, bne_self_eq_false]; rfl) (by simp [setAt])]
        exact hK _
      apply aops_step (by decide) rfl
      · intro K hK
        simp (disch := first | omega | decide) only [go_sem, f0, f1, f2, hd, hsp, q1, q2, q3, p1, p2, p3, q4, act_call, List.map, cellsOf_link, cellsOf_lsa, List.append_nil, d33, d77, d10, d01, d10', d00, d11, dtt, dff, dtf, dft, dnt, dnf, deq, Bool.not_true, Bool.not_false, Bool.true_and, Bool.and_true, beq_self_eq_true, bne_self_eq_false]
        apply mwp_call_s rfl rfl rfl
        · intro Q hQ
          simp (disch := first | omega | decide) only [go_sem, f0, f1, f2, hd, hsp, q1, q2, q3, p1, p2, p3, q4, peekL, reifyL_nil, reifyL_cons, reify_v, cellsOf_link, cellsOf_lsa, List.append_nil, d33, d77, d10, d01, d10', d00, d11, dtt, dff, dtf, dft, dnt, dnf, deq, Bool.not_true, Bool.not_false, Bool.true_and, Bool.and_true, beq_self_eq_true, bne_self_eq_false]
          exact hQ
        · exact good_refMay x.o x.s x.nil x.ls (by omega)
        · simp [-List.map_take, -List.map_drop, -List.map_append, -List.map_replicate, -List.reduceReplicate, noPtrL, noPtr, noPtrL_bsl, noPtrL_map, noPtrL_links, noPtr_lsa, noPtrL_lsas, sub]
        · rfl
        · exact hK _
      iterate 1 (apply aops_step (by decide) rfl; · (intro K hK; simp (disch := first | omega | decide) only [go_sem, f0, f1, f2, hd, hsp, q1, q2, q3, p1, p2, p3, q4, cellsOf_link, cellsOf_lsa, List.append_nil, d33, d77, d10, d01, d10', d00, d11, dtt, dff, dtf, dft, dnt, dnf, deq, Bool.not_true, Bool.not_false, Bool.true_and, Bool.and_true, beq_self_eq_true, bne_self_eq_false]; exact hK _))
      refine aops_nil ?_
      refine AW.seq ?_
      refine AW.region (cfg := cfg) ?_
      iterate 1 (apply aops_step (by decide) rfl; · (intro K hK; simp (disch := first | omega | decide) only [go_sem, f0, f1, f2, hd, hsp, q1, q2, q3, p1, p2, p3, q4, cellsOf_link, cellsOf_lsa, List.append_nil, d33, d77, d10, d01, d10', d00, d11, dtt, dff, dtf, dft, dnt, dnf, deq, Bool.not_true, Bool.not_false, Bool.true_and, Bool.and_true, beq_self_eq_true, bne_self_eq_false]; exact hK _))
      apply aops_step (by decide) rfl
      · intro K hK
        simp (disch := first | omega | decide) only [go_sem, f0, f1, f2, hd, hsp, q1, q2, q3, p1, p2, p3, q4, act_load_t ti24, List.map, cellsOf_link, cellsOf_lsa, List.append_nil, d33, d77, d10, d01, d10', d00, d11, dtt, dff, dtf, dft, dnt, dnf, deq, Bool.not_true, Bool.not_false, Bool.true_and, Bool.and_true, beq_self_eq_true, bne_self_eq_false]
        rw [mwp_load_bs (by simp (disch := first | omega | decide) only [go_sem, f0, f1, f2, hd, hsp, q1, q2, q3, p1, p2, p3, q4, cellsOf_link, cellsOf_lsa, List.append_nil, d33, d77, d10, d01, d10', d00, d11, dtt, dff, dtf, dft, dnt, dnf, deq, Bool.not_true, Bool.not_false, Bool.true_and, Bool.and_true, beq_self_eq_true, bne_self_eq_false]; rfl) (by simp [setAt])]
        exact hK _
      apply aops_step (by decide) rfl
      · intro K hK
        simp (disch := first | omega | decide) only [go_sem, f0, f1, f2, hd, hsp, q1, q2, q3, p1, p2, p3, q4, act_call, List.map, cellsOf_link, cellsOf_lsa, List.append_nil, d33, d77, d10, d01, d10', d00, d11, dtt, dff, dtf, dft, dnt, dnf, deq, Bool.not_true, Bool.not_false, Bool.true_and, Bool.and_true, beq_self_eq_true, bne_self_eq_false]
        apply mwp_call_r rfl rfl rfl
        · intro Q hQ
          simp (disch := first | omega | decide) only [go_sem, f0, f1, f2, hd, hsp, q1, q2, q3, p1, p2, p3, q4, peekL, reifyL_nil, reifyL_cons, reify_v, cellsOf_link, cellsOf_lsa, List.append_nil, d33, d77, d10, d01, d10', d00, d11, dtt, dff, dtf, dft, dnt, dnf, deq, Bool.not_true, Bool.not_false, Bool.true_and, Bool.and_true, beq_self_eq_true, bne_self_eq_false]
          exact hQ
        · exact good_Put na a x.o x.s x.nil x.ls (by omega) hza (by omega)
        · simp [-List.map_take, -List.map_drop, -List.map_append, -List.map_replicate, -List.reduceReplicate, noPtrL, noPtr, noPtrL_bsl, noPtrL_map, noPtrL_links, noPtr_lsa, noPtrL_lsas, sub]
        · rw [resOf_own1 (by (simp (disch := decide) only [mset_ne, hr]; done))]
          exact hK _
      apply aops_step (by decide) rfl
      · intro K hK
        simp (disch := first | omega | decide) only [go_sem, f0, f1, f2, hd, hsp, q1, q2, q3, p1, p2, p3, q4, cellsOf_link, cellsOf_lsa, List.append_nil, d33, d77, d10, d01, d10', d00, d11, dtt, dff, dtf, dft, dnt, dnf, deq, Bool.not_true, Bool.not_false, Bool.true_and, Bool.and_true, beq_self_eq_true, bne_self_eq_false]
        rw [asg_tmp (by simp (disch := first | omega | decide) only [go_sem, f0, f1, f2, hd, hsp, q1, q2, q3, p1, p2, p3, q4, cellsOf_link, cellsOf_lsa, List.append_nil, d33, d77, d10, d01, d10', d00, d11, dtt, dff, dtf, dft, dnt, dnf, deq, Bool.not_true, Bool.not_false, Bool.true_and, Bool.and_true, beq_self_eq_true, bne_self_eq_false]; rfl)]
        exact hK _
      refine aops_nil ?_
      refine AW.seq ?_
      refine AW.seq ?_
      refine AW.region (cfg := cfg) ?_
      apply aops_step (by decide) rfl
      · intro K hK
        simp (disch := first | omega | decide) only [go_sem, f0, f1, f2, hd, hsp, q1, q2, q3, p1, p2, p3, q4, act_load_t ti24, List.map, cellsOf_link, cellsOf_lsa, List.append_nil, d33, d77, d10, d01, d10', d00, d11, dtt, dff, dtf, dft, dnt, dnf, deq, Bool.not_true, Bool.not_false, Bool.true_and, Bool.and_true, beq_self_eq_true, bne_self_eq_false]
        rw [mwp_load_bs (by simp (disch := first | omega | decide) only [go_sem, f0, f1, f2, hd, hsp, q1, q2, q3, p1, p2, p3, q4, cellsOf_link, cellsOf_lsa, List.append_nil, d33, d77, d10, d01, d10', d00, d11, dtt, dff, dtf, dft, dnt, dnf, deq, Bool.not_true, Bool.not_false, Bool.true_and, Bool.and_true, beq_self_eq_true, bne_self_eq_false]; rfl) (by simp [setAt])]
        exact hK _
      apply aops_step (by decide) rfl
      · intro K hK
        simp (disch := first | omega | decide) only [go_sem, f0, f1, f2, hd, hsp, q1, q2, q3, p1, p2, p3, q4, act_call, List.map, cellsOf_link, cellsOf_lsa, List.append_nil, d33, d77, d10, d01, d10', d00, d11, dtt, dff, dtf, dft, dnt, dnf, deq, Bool.not_true, Bool.not_false, Bool.true_and, Bool.and_true, beq_self_eq_true, bne_self_eq_false]
        apply mwp_call_s rfl rfl rfl
        · intro Q hQ
          simp (disch := first | omega | decide) only [go_sem, f0, f1, f2, hd, hsp, q1, q2, q3, p1, p2, p3, q4, peekL, reifyL_nil, reifyL_cons, reify_v, cellsOf_link, cellsOf_lsa, List.append_nil, d33, d77, d10, d01, d10', d00, d11, dtt, dff, dtf, dft, dnt, dnf, deq, Bool.not_true, Bool.not_false, Bool.true_and, Bool.and_true, beq_self_eq_true, bne_self_eq_false]
          exact hQ
        · exact good_Check x.o x.s x.nil x.ls (by omega)
        · simp [-List.map_take, -List.map_drop, -List.map_append, -List.map_replicate, -List.reduceReplicate, noPtrL, noPtr, noPtrL_bsl, noPtrL_map, noPtrL_links, noPtr_lsa, noPtrL_lsas, sub]
        · rfl
        · exact hK _
      iterate 4 (apply aops_step (by decide) rfl; · (intro K hK; simp (disch := first | omega | decide) only [go_sem, f0, f1, f2, hd, hsp, q1, q2, q3, p1, p2, p3, q4, bin_neq_b u4, cellsOf_link, cellsOf_lsa, List.append_nil, d33, d77, d10, d01, d10', d00, d11, dtt, dff, dtf, dft, dnt, dnf, deq, Bool.not_true, Bool.not_false, Bool.true_and, Bool.and_true, beq_self_eq_true, bne_self_eq_false]; exact hK _))
      apply aops_step (by decide) rfl
      · intro K hK
        simp (disch := first | omega | decide) only [go_sem, f0, f1, f2, hd, hsp, q1, q2, q3, p1, p2, p3, q4, act_load_t ti24, List.map, cellsOf_link, cellsOf_lsa, List.append_nil, d33, d77, d10, d01, d10', d00, d11, dtt, dff, dtf, dft, dnt, dnf, deq, Bool.not_true, Bool.not_false, Bool.true_and, Bool.and_true, beq_self_eq_true, bne_self_eq_false]
        rw [mwp_load_bs (by simp (disch := first | omega | decide) only [go_sem, f0, f1, f2, hd, hsp, q1, q2, q3, p1, p2, p3, q4, cellsOf_link, cellsOf_lsa, List.append_nil, d33, d77, d10, d01, d10', d00, d11, dtt, dff, dtf, dft, dnt, dnf, deq, Bool.not_true, Bool.not_false, Bool.true_and, Bool.and_true, beq_self_eq_true, bne_self_eq_false]; rfl) (by simp [setAt])]
        exact hK _
      apply aops_step (by decide) rfl
      · intro K hK
        simp (disch := first | omega | decide) only [go_sem, f0, f1, f2, hd, hsp, q1, q2, q3, p1, p2, p3, q4, act_call, List.map, cellsOf_link, cellsOf_lsa, List.append_nil, d33, d77, d10, d01, d10', d00, d11, dtt, dff, dtf, dft, dnt, dnf, deq, Bool.not_true, Bool.not_false, Bool.true_and, Bool.and_true, beq_self_eq_true, bne_self_eq_false]
        apply mwp_call_s rfl rfl rfl
        · intro Q hQ
          simp (disch := first | omega | decide) only [go_sem, f0, f1, f2, hd, hsp, q1, q2, q3, p1, p2, p3, q4, peekL, reifyL_nil, reifyL_cons, reify_v, cellsOf_link, cellsOf_lsa, List.append_nil, d33, d77, d10, d01, d10', d00, d11, dtt, dff, dtf, dft, dnt, dnf, deq, Bool.not_true, Bool.not_false, Bool.true_and, Bool.and_true, beq_self_eq_true, bne_self_eq_false]
          exact hQ
        · exact good_Check x.o x.s x.nil x.ls (by omega)
        · simp [-List.map_take, -List.map_drop, -List.map_append, -List.map_replicate, -List.reduceReplicate, noPtrL, noPtr, noPtrL_bsl, noPtrL_map, noPtrL_links, noPtr_lsa, noPtrL_lsas, sub]
        · rfl
        · exact hK _
      iterate 5 (apply aops_step (by decide) rfl; · (intro K hK; simp (disch := first | omega | decide) only [go_sem, f0, f1, f2, hd, hsp, q1, q2, q3, p1, p2, p3, q4, bin_neq_b u4, cellsOf_link, cellsOf_lsa, List.append_nil, d33, d77, d10, d01, d10', d00, d11, dtt, dff, dtf, dft, dnt, dnf, deq, Bool.not_true, Bool.not_false, Bool.true_and, Bool.and_true, beq_self_eq_true, bne_self_eq_false]; exact hK _))
      refine aops_nil ?_
      apply AW.cond
      · simp (disch := first | omega | decide) only [go_sem, f0, f1, f2, hd, hsp, q1, q2, q3, p1, p2, p3, q4, cellsOf_link, cellsOf_lsa, List.append_nil, d33, d77, d10, d01, d10', d00, d11, dtt, dff, dtf, dft, dnt, dnf, deq, Bool.not_true, Bool.not_false, Bool.true_and, Bool.and_true, beq_self_eq_true, bne_self_eq_false]; rfl
      case ht => intro hb; simp at hb
      case hf =>
      intro hb
      have hbt44 := hb
      refine AW.skip ?_
      refine AW.seq ?_
      refine AW.seq ?_
      refine AW.region (cfg := cfg) ?_
      iterate 2 (apply aops_step (by decide) rfl; · (intro K hK; simp (disch := first | omega | decide) only [go_sem, f0, f1, f2, hd, hsp, q1, q2, q3, p1, p2, p3, q4, cellsOf_link, cellsOf_lsa, List.append_nil, d33, d77, d10, d01, d10', d00, d11, dtt, dff, dtf, dft, dnt, dnf, deq, Bool.not_true, Bool.not_false, Bool.true_and, Bool.and_true, beq_self_eq_true, bne_self_eq_false]; exact hK _))
      refine aops_nil ?_
      apply AW.cond
      · simp (disch := first | omega | decide) only [go_sem, f0, f1, f2, hd, hsp, q1, q2, q3, p1, p2, p3, q4, cellsOf_link, cellsOf_lsa, List.append_nil, d33, d77, d10, d01, d10', d00, d11, dtt, dff, dtf, dft, dnt, dnf, deq, Bool.not_true, Bool.not_false, Bool.true_and, Bool.and_true, beq_self_eq_true, bne_self_eq_false]; rfl
      case hf => intro hb; simp at hb
      case ht =>
      intro hb
      have hbt46 := hb
      refine AW.seq ?_
      refine AW.region (cfg := cfg) ?_
      iterate 2 (apply aops_step (by decide) rfl; · (intro K hK; simp (disch := first | omega | decide) only [go_sem, f0, f1, f2, hd, hsp, q1, q2, q3, p1, p2, p3, q4, cellsOf_link, cellsOf_lsa, List.append_nil, d33, d77, d10, d01, d10', d00, d11, dtt, dff, dtf, dft, dnt, dnf, deq, Bool.not_true, Bool.not_false, Bool.true_and, Bool.and_true, beq_self_eq_true, bne_self_eq_false]; exact hK _))
      apply aops_step (by decide) rfl
      · intro K hK
        simp (disch := first | omega | decide) only [go_sem, f0, f1, f2, hd, hsp, q1, q2, q3, p1, p2, p3, q4, act_call, List.map, cellsOf_link, cellsOf_lsa, List.append_nil, d33, d77, d10, d01, d10', d00, d11, dtt, dff, dtf, dft, dnt, dnf, deq, Bool.not_true, Bool.not_false, Bool.true_and, Bool.and_true, beq_self_eq_true, bne_self_eq_false]
        apply mwp_call_s rfl rfl rfl
        · intro Q hQ
          simp (disch := first | omega | decide) only [go_sem, f0, f1, f2, hd, hsp, q1, q2, q3, p1, p2, p3, q4, peekL, reifyL_nil, reifyL_cons, reify_v, cellsOf_link, cellsOf_lsa, List.append_nil, d33, d77, d10, d01, d10', d00, d11, dtt, dff, dtf, dft, dnt, dnf, deq, Bool.not_true, Bool.not_false, Bool.true_and, Bool.and_true, beq_self_eq_true, bne_self_eq_false]
          (((rw [peek_own (by simp (disch := first | omega | decide) only [go_sem, f0, f1, f2, hd, hsp, q1, q2, q3, p1, p2, p3, q4, peekL, reifyL_nil, reifyL_cons, reify_v, cellsOf_link, cellsOf_lsa, List.append_nil, d33, d77, d10, d01, d10', d00, d11, dtt, dff, dtf, dft, dnt, dnf, deq, Bool.not_true, Bool.not_false, Bool.true_and, Bool.and_true, beq_self_eq_true, bne_self_eq_false]; rfl)]); (try rw [sub_full (by rfl)])); exact hQ)
        · exact O.good_Same _ _ _ _ (by omega) (by omega)
        · simp [-List.map_take, -List.map_drop, -List.map_append, -List.map_replicate, -List.reduceReplicate, noPtrL, noPtr, noPtrL_bsl, noPtrL_map, noPtrL_links, noPtr_lsa, noPtrL_lsas, sub]
        · rfl
        · exact hK _
      iterate 1 (apply aops_step (by decide) rfl; · (intro K hK; simp (disch := first | omega | decide) only [go_sem, f0, f1, f2, hd, hsp, q1, q2, q3, p1, p2, p3, q4, cellsOf_link, cellsOf_lsa, List.append_nil, d33, d77, d10, d01, d10', d00, d11, dtt, dff, dtf, dft, dnt, dnf, deq, Bool.not_true, Bool.not_false, Bool.true_and, Bool.and_true, beq_self_eq_true, bne_self_eq_false]; exact hK _))
      apply aops_step (by decide) rfl
      · intro K hK
        simp (disch := first | omega | decide) only [go_sem, f0, f1, f2, hd, hsp, q1, q2, q3, p1, p2, p3, q4, act_call, List.map, cellsOf_link, cellsOf_lsa, List.append_nil, d33, d77, d10, d01, d10', d00, d11, dtt, dff, dtf, dft, dnt, dnf, deq, Bool.not_true, Bool.not_false, Bool.true_and, Bool.and_true, beq_self_eq_true, bne_self_eq_false]
        apply mwp_call_s rfl rfl rfl
        · intro Q hQ
          simp (disch := first | omega | decide) only [go_sem, f0, f1, f2, hd, hsp, q1, q2, q3, p1, p2, p3, q4, peekL, reifyL_nil, reifyL_cons, reify_v, cellsOf_link, cellsOf_lsa, List.append_nil, d33, d77, d10, d01, d10', d00, d11, dtt, dff, dtf, dft, dnt, dnf, deq, Bool.not_true, Bool.not_false, Bool.true_and, Bool.and_true, beq_self_eq_true, bne_self_eq_false]
          exact hQ
        · exact L.good_awake
        · simp [-List.map_take, -List.map_drop, -List.map_append, -List.map_replicate, -List.reduceReplicate, noPtrL, noPtr, noPtrL_bsl, noPtrL_map, noPtrL_links, noPtr_lsa, noPtrL_lsas, sub]
        · rfl
        · exact hK _
      iterate 2 (apply aops_step (by decide) rfl; · (intro K hK; simp (disch := first | omega | decide) only [go_sem, f0, f1, f2, hd, hsp, q1, q2, q3, p1, p2, p3, q4, cellsOf_link, cellsOf_lsa, List.append_nil, d33, d77, d10, d01, d10', d00, d11, dtt, dff, dtf, dft, dnt, dnf, deq, Bool.not_true, Bool.not_false, Bool.true_and, Bool.and_true, beq_self_eq_true, bne_self_eq_false]; exact hK _))
      refine aops_nil ?_
      refine AW.ret ?_
      refine ⟨.inr rfl, ?_⟩
      apply Exists.intro
      refine leaves_tmp1 6 rfl ?_ (by rfl)
      simp (disch := first | omega | decide) only [go_sem, f0, f1, f2, hd, hsp, q1, q2, q3, p1, p2, p3, q4, cellsOf_link, cellsOf_lsa, List.append_nil, d33, d77, d10, d01, d10', d00, d11, dtt, dff, dtf, dft, dnt, dnf, deq, Bool.not_true, Bool.not_false, Bool.true_and, Bool.and_true, beq_self_eq_true, bne_self_eq_false]
      all_goals rfl

end Go.Vai.L
