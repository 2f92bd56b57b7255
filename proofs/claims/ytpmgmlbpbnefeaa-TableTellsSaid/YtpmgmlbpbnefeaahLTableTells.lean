import Derived.Test.YtpmgmlbpbnefeaahTab7
namespace Go.Vai.T
open Go.Proofs Go.Vai
set_option linter.unusedSimpArgs false
set_option linter.unusedVariables false

set_option maxHeartbeats 4000000 in
set_option maxRecDepth 100000 in
theorem good_TableTells (nil : Bool) (l : List Nr) (hl : l.length ≤ 9223372036854775807) : Good Try.prog 3 [(.sl 8 nil (l.map nrA), false)] [] [(.b true, false)] [] := by
 refine good_of_body4 112 Try.func3 rfl rfl rfl (by simp) (by simp) (by simp [noPtrL, noPtr]) (by rfl) ?_
 intro s m ha hr hv hG
 have f0 : s 0 = .v (.sl 8 nil (l.map nrA)) := ha 0 _ rfl
 clear ha
 refine AW.sr (cfg := cfg) ?_
 iterate 1 (apply aops_step (by decide) rfl; · (intro K hK; simp (disch := first | omega | decide) only [go_sem, f0, List.length_nil, List.length_map, List.getElem_map, beq_self_eq_true, Bool.and_self, ne_eq, not_true_eq_false, Bool.not_true, Bool.not_false]; exact hK _))
 refine aops_nil ?_
 refine AW.seq ?_
 refine AW.sr (cfg := cfg) ?_
 iterate 3 (apply aops_step (by decide) rfl; · (intro K hK; simp (disch := first | omega | decide) only [go_sem, f0, List.map, List.length_map, aops_len u22, List.length_nil, List.getElem_map, beq_self_eq_true, Bool.and_self, ne_eq, not_true_eq_false, Bool.not_true, Bool.not_false]; exact hK _))
 refine aops_nil ?_
 apply AW.cond
 ·(simp only [go_sem, f0, List.length_nil, List.length_map, List.getElem_map, beq_self_eq_true, Bool.and_self, ne_eq, not_true_eq_false, Bool.not_true, Bool.not_false]; rfl)
 case ht =>
  intro hb
  try simp only [bo1, bo2, bo3, bo4, bo5, bo6] at hb
  have hbt12 := hb
  refine AW.sr (cfg := cfg) ?_
  apply aops_step (by decide) rfl
  ·intro K hK
   simp (disch := first | omega | decide) only [go_sem, f0, act_call, List.map, List.length_nil, List.length_map, List.getElem_map, beq_self_eq_true, Bool.and_self, ne_eq, not_true_eq_false, Bool.not_true, Bool.not_false]
   apply mwp_call_s rfl rfl rfl
   ·intro Q hQ
    (simp (disch := first | omega | decide) only [go_sem, f0, peekL, reifyL_nil, reifyL_cons, reify_v, List.length_nil, List.length_map, List.getElem_map, beq_self_eq_true, Bool.and_self, ne_eq, not_true_eq_false, Bool.not_true, Bool.not_false]; (exact hQ))
   ·exact good_awakeT
   ·simp [-List.map_take, -List.map_drop, -List.map_append, -List.map_replicate, -List.reduceReplicate, noPtrL, noPtr, noPtrL_bsl, noPtrL_map, sub]
   ·rfl
   ·exact hK _
  iterate 1 (apply aops_step (by decide) rfl; · (intro K hK; simp (disch := first | omega | decide) only [go_sem, f0, List.length_nil, List.length_map, List.getElem_map, beq_self_eq_true, Bool.and_self, ne_eq, not_true_eq_false, Bool.not_true, Bool.not_false]; exact hK _))
  refine aops_nil ?_
  refine AW.ret ?_
  refine ⟨.inr rfl, ?_⟩
  apply Exists.intro
  refine leaves_tmp1 2 rfl ?_ (by rfl)
  simp (disch := first | omega | decide) only [go_sem, f0, List.length_nil, List.length_map, List.getElem_map, beq_self_eq_true, Bool.and_self, ne_eq, not_true_eq_false, Bool.not_true, Bool.not_false]
  all_goals first | done | rfl | trace_state
 case hf =>
  intro hb
  try simp only [bo1, bo2, bo3, bo4, bo5, bo6] at hb
  have hbt12 := hb
  refine AW.skip ?_
  refine AW.sr (cfg := cfg) ?_
  iterate 1 (apply aops_step (by decide) rfl; · (intro K hK; simp (disch := first | omega | decide) only [go_sem, f0, List.length_nil, List.length_map, List.getElem_map, beq_self_eq_true, Bool.and_self, ne_eq, not_true_eq_false, Bool.not_true, Bool.not_false]; exact hK _))
  apply aops_step (by decide) rfl
  ·intro K hK
   simp (disch := first | omega | decide) only [go_sem, f0, act_call, List.map, List.length_nil, List.length_map, List.getElem_map, beq_self_eq_true, Bool.and_self, ne_eq, not_true_eq_false, Bool.not_true, Bool.not_false]
   apply mwp_call_r rfl rfl rfl
   ·intro Q hQ
    (simp (disch := first | omega | decide) only [go_sem, f0, peekL, reifyL_nil, reifyL_cons, reify_v, List.length_nil, List.length_map, List.getElem_map, beq_self_eq_true, Bool.and_self, ne_eq, not_true_eq_false, Bool.not_true, Bool.not_false]; (exact hQ))
   ·exact good_HeardT nil l (by omega)
   ·simp [-List.map_take, -List.map_drop, -List.map_append, -List.map_replicate, -List.reduceReplicate, noPtrL, noPtr, noPtrL_bsl, noPtrL_map, sub]
   ·simp (disch := first | omega | decide) only [go_sem, f0, List.length_nil, List.length_map, List.getElem_map, beq_self_eq_true, Bool.and_self, ne_eq, not_true_eq_false, Bool.not_true, Bool.not_false]
    exact hK _
  iterate 1 (apply aops_step (by decide) rfl; · (intro K hK; simp (disch := first | omega | decide) only [go_sem, f0, List.length_nil, List.length_map, List.getElem_map, beq_self_eq_true, Bool.and_self, ne_eq, not_true_eq_false, Bool.not_true, Bool.not_false]; exact hK _))
  apply aops_step (by decide) rfl
  ·intro K hK
   simp (disch := first | omega | decide) only [go_sem, f0, act_call, List.map, List.length_nil, List.length_map, List.getElem_map, beq_self_eq_true, Bool.and_self, ne_eq, not_true_eq_false, Bool.not_true, Bool.not_false]
   apply mwp_call_r rfl rfl rfl
   ·intro Q hQ
    (simp (disch := first | omega | decide) only [go_sem, f0, peekL, reifyL_nil, reifyL_cons, reify_v, List.length_nil, List.length_map, List.getElem_map, beq_self_eq_true, Bool.and_self, ne_eq, not_true_eq_false, Bool.not_true, Bool.not_false]; (exact hQ))
   ·exact good_FullT nil l (by omega)
   ·simp [-List.map_take, -List.map_drop, -List.map_append, -List.map_replicate, -List.reduceReplicate, noPtrL, noPtr, noPtrL_bsl, noPtrL_map, sub]
   ·simp (disch := first | omega | decide) only [go_sem, f0, List.length_nil, List.length_map, List.getElem_map, beq_self_eq_true, Bool.and_self, ne_eq, not_true_eq_false, Bool.not_true, Bool.not_false]
    exact hK _
  iterate 1 (apply aops_step (by decide) rfl; · (intro K hK; simp (disch := first | omega | decide) only [go_sem, f0, List.length_nil, List.length_map, List.getElem_map, beq_self_eq_true, Bool.and_self, ne_eq, not_true_eq_false, Bool.not_true, Bool.not_false]; exact hK _))
  apply aops_step (by decide) rfl
  ·intro K hK
   simp (disch := first | omega | decide) only [go_sem, f0, act_call, List.map, List.length_nil, List.length_map, List.getElem_map, beq_self_eq_true, Bool.and_self, ne_eq, not_true_eq_false, Bool.not_true, Bool.not_false]
   apply mwp_call_r rfl rfl rfl
   ·intro Q hQ
    (simp (disch := first | omega | decide) only [go_sem, f0, peekL, reifyL_nil, reifyL_cons, reify_v, List.length_nil, List.length_map, List.getElem_map, beq_self_eq_true, Bool.and_self, ne_eq, not_true_eq_false, Bool.not_true, Bool.not_false]; (exact hQ))
   ·exact good_LinksT nil l (by omega)
   ·simp [-List.map_take, -List.map_drop, -List.map_append, -List.map_replicate, -List.reduceReplicate, noPtrL, noPtr, noPtrL_bsl, noPtrL_map, sub]
   ·simp (disch := first | omega | decide) only [go_sem, f0, List.length_nil, List.length_map, List.getElem_map, beq_self_eq_true, Bool.and_self, ne_eq, not_true_eq_false, Bool.not_true, Bool.not_false]
    exact hK _
  iterate 3 (apply aops_step (by decide) rfl; · (intro K hK; simp (disch := first | omega | decide) only [go_sem, f0, List.length_nil, List.length_map, List.getElem_map, beq_self_eq_true, Bool.and_self, ne_eq, not_true_eq_false, Bool.not_true, Bool.not_false]; exact hK _))
  refine aops_nil ?_
  refine AW.seq ?_
  refine AW.seq ?_
  rcases tab_way l with hp | hp
  ·skip
   have e1 := thR_no (p := heP) (t := hdT) hp
   have e2 := thR_no (p := fuP) (t := lkT) hp
   have e3 := thR_no (p := fuP) (t := ofP) hp
   have e4 := hp
   refine AW.region (cfg := cfg) ?_
   iterate 1 (apply aops_step (by decide) rfl; · (intro K hK; simp (disch := first | omega | decide) only [go_sem, f0, hp, e1, e2, e3, e4, List.length_nil, List.length_map, List.getElem_map, beq_self_eq_true, Bool.and_self, ne_eq, not_true_eq_false, Bool.not_true, Bool.not_false]; exact hK _))
   apply aops_step (by decide) rfl
   ·intro K hK
    simp (disch := first | omega | decide) only [go_sem, f0, hp, e1, e2, e3, e4, act_call, List.map, List.length_nil, List.length_map, List.getElem_map, beq_self_eq_true, Bool.and_self, ne_eq, not_true_eq_false, Bool.not_true, Bool.not_false]
    apply mwp_call_s rfl rfl rfl
    ·intro Q hQ
     (simp (disch := first | omega | decide) only [go_sem, f0, hp, e1, e2, e3, e4, peekL, reifyL_nil, reifyL_cons, reify_v, List.length_nil, List.length_map, List.getElem_map, beq_self_eq_true, Bool.and_self, ne_eq, not_true_eq_false, Bool.not_true, Bool.not_false]; (exact hQ))
    ·exact good_mayT nil l (by omega)
    ·simp [-List.map_take, -List.map_drop, -List.map_append, -List.map_replicate, -List.reduceReplicate, noPtrL, noPtr, noPtrL_bsl, noPtrL_map, sub]
    ·rfl
    ·exact hK _
   iterate 1 (apply aops_step (by decide) rfl; · (intro K hK; simp (disch := first | omega | decide) only [go_sem, f0, hp, e1, e2, e3, e4, List.length_nil, List.length_map, List.getElem_map, beq_self_eq_true, Bool.and_self, ne_eq, not_true_eq_false, Bool.not_true, Bool.not_false]; exact hK _))
   refine aops_nil ?_
   apply AW.cond
   ·(simp only [go_sem, f0, hp, e1, e2, e3, e4, List.length_nil, List.length_map, List.getElem_map, beq_self_eq_true, Bool.and_self, ne_eq, not_true_eq_false, Bool.not_true, Bool.not_false]; rfl)
   case hf => intro hb; (simp at hb; done)
   case ht =>
   intro hb
   have hbt22 := hb
   refine AW.sr (cfg := cfg) ?_
   iterate 14 (apply aops_step (by decide) rfl; · (intro K hK; simp (disch := first | omega | decide) only [go_sem, f0, hp, e1, e2, e3, e4, List.map, List.length_map, aops_len u24, aops_len u26, aops_len u28, List.length_nil, List.getElem_map, beq_self_eq_true, Bool.and_self, ne_eq, not_true_eq_false, Bool.not_true, Bool.not_false]; exact hK _))
   apply aops_step (by decide) rfl
   ·intro K hK
    simp (disch := first | omega | decide) only [go_sem, f0, hp, e1, e2, e3, e4, act_call, List.map, List.length_nil, List.length_map, List.getElem_map, beq_self_eq_true, Bool.and_self, ne_eq, not_true_eq_false, Bool.not_true, Bool.not_false]
    apply mwp_call_s rfl rfl rfl
    ·intro Q hQ
     (simp (disch := first | omega | decide) only [go_sem, f0, hp, e1, e2, e3, e4, peekL, reifyL_nil, reifyL_cons, reify_v, List.length_nil, List.length_map, List.getElem_map, beq_self_eq_true, Bool.and_self, ne_eq, not_true_eq_false, Bool.not_true, Bool.not_false]; (exact hQ))
    ·exact good_awakeT
    ·simp [-List.map_take, -List.map_drop, -List.map_append, -List.map_replicate, -List.reduceReplicate, noPtrL, noPtr, noPtrL_bsl, noPtrL_map, sub]
    ·rfl
    ·exact hK _
   iterate 2 (apply aops_step (by decide) rfl; · (intro K hK; simp (disch := first | omega | decide) only [go_sem, f0, hp, e1, e2, e3, e4, List.length_nil, List.length_map, List.getElem_map, beq_self_eq_true, Bool.and_self, ne_eq, not_true_eq_false, Bool.not_true, Bool.not_false]; exact hK _))
   refine aops_nil ?_
   refine AW.ret ?_
   refine ⟨.inr rfl, ?_⟩
   apply Exists.intro
   refine leaves_tmp1 2 rfl ?_ (by rfl)
   simp (disch := first | omega | decide) only [go_sem, f0, hp, e1, e2, e3, e4, List.length_nil, List.length_map, List.getElem_map, beq_self_eq_true, Bool.and_self, ne_eq, not_true_eq_false, Bool.not_true, Bool.not_false]
   all_goals rfl
  ·skip
   have e1 := thR_yes (p := heP) (t := hdT) hp
   have e2 := thR_yes (p := fuP) (t := lkT) hp
   have e3 : thR fuP ofP l = (thL fuP lkT l).map (·.a) := by rw [thR_yes hp, of_map]
   have hfl := fu_le hp
   have hln := th_len heP hdT l
   have e4 : decide ((((thL fuP lkT l).length : Nat) : Int) > (((thL heP hdT l).length : Nat) : Int)) = false := decide_eq_false (by omega)
   refine AW.region (cfg := cfg) ?_
   iterate 1 (apply aops_step (by decide) rfl; · (intro K hK; simp (disch := first | omega | decide) only [go_sem, f0, hp, e1, e2, e3, e4, List.length_nil, List.length_map, List.getElem_map, beq_self_eq_true, Bool.and_self, ne_eq, not_true_eq_false, Bool.not_true, Bool.not_false]; exact hK _))
   apply aops_step (by decide) rfl
   ·intro K hK
    simp (disch := first | omega | decide) only [go_sem, f0, hp, e1, e2, e3, e4, act_call, List.map, List.length_nil, List.length_map, List.getElem_map, beq_self_eq_true, Bool.and_self, ne_eq, not_true_eq_false, Bool.not_true, Bool.not_false]
    apply mwp_call_s rfl rfl rfl
    ·intro Q hQ
     (simp (disch := first | omega | decide) only [go_sem, f0, hp, e1, e2, e3, e4, peekL, reifyL_nil, reifyL_cons, reify_v, List.length_nil, List.length_map, List.getElem_map, beq_self_eq_true, Bool.and_self, ne_eq, not_true_eq_false, Bool.not_true, Bool.not_false]; (exact hQ))
    ·exact good_mayT nil l (by omega)
    ·simp [-List.map_take, -List.map_drop, -List.map_append, -List.map_replicate, -List.reduceReplicate, noPtrL, noPtr, noPtrL_bsl, noPtrL_map, sub]
    ·rfl
    ·exact hK _
   iterate 1 (apply aops_step (by decide) rfl; · (intro K hK; simp (disch := first | omega | decide) only [go_sem, f0, hp, e1, e2, e3, e4, List.length_nil, List.length_map, List.getElem_map, beq_self_eq_true, Bool.and_self, ne_eq, not_true_eq_false, Bool.not_true, Bool.not_false]; exact hK _))
   refine aops_nil ?_
   apply AW.cond
   ·(simp only [go_sem, f0, hp, e1, e2, e3, e4, List.length_nil, List.length_map, List.getElem_map, beq_self_eq_true, Bool.and_self, ne_eq, not_true_eq_false, Bool.not_true, Bool.not_false]; rfl)
   case ht => intro hb; (simp at hb; done)
   case hf =>
   intro hb
   have hbt22 := hb
   refine AW.skip ?_
   refine AW.sr (cfg := cfg) ?_
   iterate 1 (apply aops_step (by decide) rfl; · (intro K hK; simp (disch := first | omega | decide) only [go_sem, f0, hp, e1, e2, e3, e4, List.length_nil, List.length_map, List.getElem_map, beq_self_eq_true, Bool.and_self, ne_eq, not_true_eq_false, Bool.not_true, Bool.not_false]; exact hK _))
   apply aops_step (by decide) rfl
   ·intro K hK
    simp (disch := first | omega | decide) only [go_sem, f0, hp, e1, e2, e3, e4, act_call, List.map, List.length_nil, List.length_map, List.getElem_map, beq_self_eq_true, Bool.and_self, ne_eq, not_true_eq_false, Bool.not_true, Bool.not_false]
    apply mwp_call_r rfl rfl rfl
    ·intro Q hQ
     (simp (disch := first | omega | decide) only [go_sem, f0, hp, e1, e2, e3, e4, peekL, reifyL_nil, reifyL_cons, reify_v, List.length_nil, List.length_map, List.getElem_map, beq_self_eq_true, Bool.and_self, ne_eq, not_true_eq_false, Bool.not_true, Bool.not_false]; (exact hQ))
    ·exact good_refHeardT nil l (by omega)
    ·simp [-List.map_take, -List.map_drop, -List.map_append, -List.map_replicate, -List.reduceReplicate, noPtrL, noPtr, noPtrL_bsl, noPtrL_map, sub]
    ·simp (disch := first | omega | decide) only [go_sem, f0, hp, e1, e2, e3, e4, List.length_nil, List.length_map, List.getElem_map, beq_self_eq_true, Bool.and_self, ne_eq, not_true_eq_false, Bool.not_true, Bool.not_false]
     exact hK _
   iterate 1 (apply aops_step (by decide) rfl; · (intro K hK; simp (disch := first | omega | decide) only [go_sem, f0, hp, e1, e2, e3, e4, List.length_nil, List.length_map, List.getElem_map, beq_self_eq_true, Bool.and_self, ne_eq, not_true_eq_false, Bool.not_true, Bool.not_false]; exact hK _))
   apply aops_step (by decide) rfl
   ·intro K hK
    simp (disch := first | omega | decide) only [go_sem, f0, hp, e1, e2, e3, e4, act_call, List.map, List.length_nil, List.length_map, List.getElem_map, beq_self_eq_true, Bool.and_self, ne_eq, not_true_eq_false, Bool.not_true, Bool.not_false]
    apply mwp_call_r rfl rfl rfl
    ·intro Q hQ
     (simp (disch := first | omega | decide) only [go_sem, f0, hp, e1, e2, e3, e4, peekL, reifyL_nil, reifyL_cons, reify_v, List.length_nil, List.length_map, List.getElem_map, beq_self_eq_true, Bool.and_self, ne_eq, not_true_eq_false, Bool.not_true, Bool.not_false]; (exact hQ))
    ·exact good_refLinksT nil l (by omega)
    ·simp [-List.map_take, -List.map_drop, -List.map_append, -List.map_replicate, -List.reduceReplicate, noPtrL, noPtr, noPtrL_bsl, noPtrL_map, sub]
    ·simp (disch := first | omega | decide) only [go_sem, f0, hp, e1, e2, e3, e4, List.length_nil, List.length_map, List.getElem_map, beq_self_eq_true, Bool.and_self, ne_eq, not_true_eq_false, Bool.not_true, Bool.not_false]
     exact hK _
   iterate 2 (apply aops_step (by decide) rfl; · (intro K hK; simp (disch := first | omega | decide) only [go_sem, f0, hp, e1, e2, e3, e4, List.length_nil, List.length_map, List.getElem_map, beq_self_eq_true, Bool.and_self, ne_eq, not_true_eq_false, Bool.not_true, Bool.not_false]; exact hK _))
   refine aops_nil ?_
   refine AW.seq ?_
   refine AW.sr (cfg := cfg) ?_
   iterate 26 (apply aops_step (by decide) rfl; · (intro K hK; simp (disch := first | omega | decide) only [go_sem, f0, hp, e1, e2, e3, e4, List.map, List.length_map, aops_len u24, aops_len u28, aops_len u26, List.length_nil, List.getElem_map, beq_self_eq_true, Bool.and_self, ne_eq, not_true_eq_false, Bool.not_true, Bool.not_false]; exact hK _))
   refine aops_nil ?_
   apply AW.cond
   ·(simp only [go_sem, f0, hp, e1, e2, e3, e4, List.length_nil, List.length_map, List.getElem_map, beq_self_eq_true, Bool.and_self, ne_eq, not_true_eq_false, Bool.not_true, Bool.not_false]; rfl)
   case ht => intro hb; simp at hb
   case hf =>
   intro hb
   have hbt68 := hb
   refine AW.skip ?_
   refine AW.seq ?_
   refine AW.sr (cfg := cfg) ?_
   iterate 1 (apply aops_step (by decide) rfl; · (intro K hK; simp (disch := first | omega | decide) only [go_sem, f0, hp, e1, e2, e3, e4, List.length_nil, List.length_map, List.getElem_map, beq_self_eq_true, Bool.and_self, ne_eq, not_true_eq_false, Bool.not_true, Bool.not_false]; exact hK _))
   refine aops_nil ?_
   refine AW.block ?_
   refine AW.forN (fun k σ => ∃ s m, σ = ⟨112, s, m⟩ ∧ s 3 = .v (.sl 2 (thL heP hdT l).isEmpty ((thL heP hdT l).map prA)) ∧ s 4 = .v (.sl 1 ((thL fuP lkT l).map (·.a)).isEmpty (((thL fuP lkT l).map (·.a)).map i64)) ∧ s 5 = .v (.sl 2 (thL fuP lkT l).isEmpty ((thL fuP lkT l).map prA)) ∧ s 6 = .v (.sl 2 false ((thL heP hdT l).map prA)) ∧ s 7 = .v (.sl 2 false ((thL fuP lkT l).map prA)) ∧ s 8 = .v (i64 (k : Int)) ∧ (∀ i, (m.objs (.res i)).2 = .dead) ∧ m.G = []) ((thL heP hdT l).length) ?_ ?_ ?_
   ·refine ⟨_, _, rfl, ?_, ?_, ?_, ?_, ?_, ?_, (by intro i; simp [Mem.set, hr]), (by exact hG)⟩ <;> try simp (disch := first | omega | decide) only [go_sem, f0, hp, e1, e2, e3, e4, List.length_nil, List.length_map, List.getElem_map, beq_self_eq_true, Bool.and_self, ne_eq, not_true_eq_false, Bool.not_true, Bool.not_false]
    all_goals rfl
   ·clear f0 hr hG
    rintro k σ hk ⟨s, m, rfl, f3, f4, f5, f6, f7, f8, hr, hG⟩
    refine AW.seq ?_
    refine AW.sr (cfg := cfg) ?_
    iterate 4 (apply aops_step (by decide) rfl; · (intro K hK; simp (disch := first | omega | decide) only [go_sem, f3, f4, f5, f6, f7, f8, hp, e1, e2, e3, e4, List.map, List.length_map, aops_len u24, List.length_nil, List.getElem_map, beq_self_eq_true, Bool.and_self, ne_eq, not_true_eq_false, Bool.not_true, Bool.not_false]; exact hK _))
    refine aops_nil ?_
    apply AW.cond
    ·(simp only [go_sem, f3, f4, f5, f6, f7, f8, hp, e1, e2, e3, e4, List.length_nil, List.length_map, List.getElem_map, beq_self_eq_true, Bool.and_self, ne_eq, not_true_eq_false, Bool.not_true, Bool.not_false]; rfl)
    case hf => intro hb; (simp at hb; omega)
    case ht =>
    intro hb
    have hbt72 := hb
    refine AW.skip ?_
    refine AW.seq ?_
    refine AW.block ?_
    refine AW.seq ?_
    refine AW.draw (cfg := cfg) (by kernel_rfl) (by kernel_rfl) (by kernel_rfl) ?_
    iterate 2 (apply adraw_step rfl; · (intro K hK; simp (disch := first | omega | decide) only [go_sem, f3, f4, f5, f6, f7, f8, hp, e1, e2, e3, e4, List.length_nil, List.length_map, List.getElem_map, beq_self_eq_true, Bool.and_self, ne_eq, not_true_eq_false, Bool.not_true, Bool.not_false]; exact hK))
    apply adraw_step rfl
    ·intro K hK
     simp (disch := first | omega | decide) only [go_sem, f3, f4, f5, f6, f7, f8, hp, e1, e2, e3, e4, act_indexAddr_s u24 ti32, List.map, List.length_nil, List.length_map, List.getElem_map, beq_self_eq_true, Bool.and_self, ne_eq, not_true_eq_false, Bool.not_true, Bool.not_false]
     skip
     exact hK
    apply adraw_step rfl
    ·intro K hK
     simp (disch := first | omega | decide) only [go_sem, f3, f4, f5, f6, f7, f8, hp, e1, e2, e3, e4, act_load_t ti32, List.map, List.length_nil, List.length_map, List.getElem_map, beq_self_eq_true, Bool.and_self, ne_eq, not_true_eq_false, Bool.not_true, Bool.not_false]
     rw [mwp_load_is (by simp)]
     exact hK
    iterate 2 (apply adraw_step rfl; · (intro K hK; simp (disch := first | omega | decide) only [go_sem, f3, f4, f5, f6, f7, f8, hp, e1, e2, e3, e4, List.length_nil, List.length_map, List.getElem_map, beq_self_eq_true, Bool.and_self, ne_eq, not_true_eq_false, Bool.not_true, Bool.not_false]; exact hK))
    apply adraw_step rfl
    ·intro K hK
     simp (disch := first | omega | decide) only [go_sem, f3, f4, f5, f6, f7, f8, hp, e1, e2, e3, e4, act_indexAddr_s u24 ti32, List.map, List.length_nil, List.length_map, List.getElem_map, beq_self_eq_true, Bool.and_self, ne_eq, not_true_eq_false, Bool.not_true, Bool.not_false]
     skip
     exact hK
    apply adraw_step rfl
    ·intro K hK
     simp (disch := first | omega | decide) only [go_sem, f3, f4, f5, f6, f7, f8, hp, e1, e2, e3, e4, act_load_t ti32, List.map, List.length_nil, List.length_map, List.getElem_map, beq_self_eq_true, Bool.and_self, ne_eq, not_true_eq_false, Bool.not_true, Bool.not_false]
     rw [mwp_load_is (by simp)]
     exact hK
    iterate 1 (apply adraw_step rfl; · (intro K hK; simp (disch := first | omega | decide) only [go_sem, f3, f4, f5, f6, f7, f8, hp, e1, e2, e3, e4, bin_neq_s us32 fl32 eg32, List.length_nil, List.length_map, List.getElem_map, beq_self_eq_true, Bool.and_self, ne_eq, not_true_eq_false, Bool.not_true, Bool.not_false]; exact hK))
    refine adraw_nil (by kernel_rfl) ?_
    apply AW.cond
    ·(simp only [go_sem, f3, f4, f5, f6, f7, f8, hp, e1, e2, e3, e4, List.length_nil, List.length_map, List.getElem_map, beq_self_eq_true, Bool.and_self, ne_eq, not_true_eq_false, Bool.not_true, Bool.not_false]; rfl)
    case ht => intro hb; simp at hb
    case hf =>
    intro hb
    have hbt83 := hb
    refine AW.skip ?_
    refine AW.region (cfg := cfg) ?_
    iterate 3 (apply aops_step (by decide) rfl; · (intro K hK; simp (disch := first | omega | decide) only [go_sem, f3, f4, f5, f6, f7, f8, hp, e1, e2, e3, e4, List.length_nil, List.length_map, List.getElem_map, beq_self_eq_true, Bool.and_self, ne_eq, not_true_eq_false, Bool.not_true, Bool.not_false]; exact hK _))
    refine aops_nil ?_
    refine ⟨_, _, rfl, ?_, ?_, ?_, ?_, ?_, ?_, (by intro i; simp [Mem.set, hr]), (by exact hG)⟩ <;> try simp (disch := first | omega | decide) only [go_sem, f3, f4, f5, f6, f7, f8, hp, e1, e2, e3, e4, List.length_nil, List.length_map, List.getElem_map, beq_self_eq_true, Bool.and_self, ne_eq, not_true_eq_false, Bool.not_true, Bool.not_false]
    all_goals rfl
   ·clear f0 hr hG
    rintro σ ⟨s, m, rfl, f3, f4, f5, f6, f7, f8, hr, hG⟩
    refine AW.seq ?_
    refine AW.sr (cfg := cfg) ?_
    iterate 4 (apply aops_step (by decide) rfl; · (intro K hK; simp (disch := first | omega | decide) only [go_sem, f3, f4, f5, f6, f7, f8, hp, e1, e2, e3, e4, List.map, List.length_map, aops_len u24, List.length_nil, List.getElem_map, beq_self_eq_true, Bool.and_self, ne_eq, not_true_eq_false, Bool.not_true, Bool.not_false]; exact hK _))
    refine aops_nil ?_
    apply AW.cond
    ·(simp only [go_sem, f3, f4, f5, f6, f7, f8, hp, e1, e2, e3, e4, List.length_nil, List.length_map, List.getElem_map, beq_self_eq_true, Bool.and_self, ne_eq, not_true_eq_false, Bool.not_true, Bool.not_false]; rfl)
    case ht => intro hb; (simp at hb; done)
    case hf =>
    intro hb
    have hbt72 := hb
    refine AW.exit ?_
    refine AW.seq ?_
    refine AW.sr (cfg := cfg) ?_
    iterate 1 (apply aops_step (by decide) rfl; · (intro K hK; simp (disch := first | omega | decide) only [go_sem, f3, f4, f5, f6, f7, f8, hp, e1, e2, e3, e4, List.length_nil, List.length_map, List.getElem_map, beq_self_eq_true, Bool.and_self, ne_eq, not_true_eq_false, Bool.not_true, Bool.not_false]; exact hK _))
    refine aops_nil ?_
    refine AW.block ?_
    refine AW.forN (fun k σ => ∃ s m, σ = ⟨112, s, m⟩ ∧ s 4 = .v (.sl 1 ((thL fuP lkT l).map (·.a)).isEmpty (((thL fuP lkT l).map (·.a)).map i64)) ∧ s 5 = .v (.sl 2 (thL fuP lkT l).isEmpty ((thL fuP lkT l).map prA)) ∧ s 7 = .v (.sl 2 false ((thL fuP lkT l).map prA)) ∧ s 9 = .v (i64 (k : Int)) ∧ (∀ i, (m.objs (.res i)).2 = .dead) ∧ m.G = []) ((thL fuP lkT l).length) ?_ ?_ ?_
    ·refine ⟨_, _, rfl, ?_, ?_, ?_, ?_, (by intro i; simp [Mem.set, hr]), (by exact hG)⟩ <;> try simp (disch := first | omega | decide) only [go_sem, f3, f4, f5, f6, f7, f8, hp, e1, e2, e3, e4, List.length_nil, List.length_map, List.getElem_map, beq_self_eq_true, Bool.and_self, ne_eq, not_true_eq_false, Bool.not_true, Bool.not_false]
     all_goals rfl
    ·clear f3 f4 f5 f6 f7 f8 hr hG
     rintro k σ hk ⟨s, m, rfl, f4, f5, f7, f9, hr, hG⟩
     refine AW.seq ?_
     refine AW.sr (cfg := cfg) ?_
     iterate 4 (apply aops_step (by decide) rfl; · (intro K hK; simp (disch := first | omega | decide) only [go_sem, f4, f5, f7, f9, hp, e1, e2, e3, e4, List.map, List.length_map, aops_len u28, List.length_nil, List.getElem_map, beq_self_eq_true, Bool.and_self, ne_eq, not_true_eq_false, Bool.not_true, Bool.not_false]; exact hK _))
     refine aops_nil ?_
     apply AW.cond
     ·(simp only [go_sem, f4, f5, f7, f9, hp, e1, e2, e3, e4, List.length_nil, List.length_map, List.getElem_map, beq_self_eq_true, Bool.and_self, ne_eq, not_true_eq_false, Bool.not_true, Bool.not_false]; rfl)
     case hf => intro hb; (simp at hb; omega)
     case ht =>
     intro hb
     have hbt87 := hb
     refine AW.skip ?_
     refine AW.seq ?_
     refine AW.block ?_
     refine AW.seq ?_
     have hkm : k < ((thL fuP lkT l).map (·.a)).length := by (rw [List.length_map]; exact hk)
     refine AW.draw (cfg := cfg) (by kernel_rfl) (by kernel_rfl) (by kernel_rfl) ?_
     iterate 2 (apply adraw_step rfl; · (intro K hK; simp (disch := first | omega | decide) only [go_sem, f4, f5, f7, f9, hp, e1, e2, e3, e4, List.length_nil, List.length_map, List.getElem_map, beq_self_eq_true, Bool.and_self, ne_eq, not_true_eq_false, Bool.not_true, Bool.not_false]; exact hK))
     apply adraw_step rfl
     ·intro K hK
      simp (disch := first | omega | decide) only [go_sem, f4, f5, f7, f9, hp, e1, e2, e3, e4, act_indexAddr_s u28 ti34, List.map, List.length_nil, List.length_map, List.getElem_map, beq_self_eq_true, Bool.and_self, ne_eq, not_true_eq_false, Bool.not_true, Bool.not_false]
      skip
      exact hK
     apply adraw_step rfl
     ·intro K hK
      simp (disch := first | omega | decide) only [go_sem, f4, f5, f7, f9, hp, e1, e2, e3, e4, act_load_t ti34, List.map, List.length_nil, List.length_map, List.getElem_map, beq_self_eq_true, Bool.and_self, ne_eq, not_true_eq_false, Bool.not_true, Bool.not_false]
      rw [mwp_load_is (by simp)]
      exact hK
     iterate 2 (apply adraw_step rfl; · (intro K hK; simp (disch := first | omega | decide) only [go_sem, f4, f5, f7, f9, hp, e1, e2, e3, e4, List.length_nil, List.length_map, List.getElem_map, beq_self_eq_true, Bool.and_self, ne_eq, not_true_eq_false, Bool.not_true, Bool.not_false]; exact hK))
     apply adraw_step rfl
     ·intro K hK
      simp (disch := first | omega | decide) only [go_sem, f4, f5, f7, f9, hp, e1, e2, e3, e4, act_indexAddr_s u28 ti34, List.map, List.length_nil, List.length_map, List.getElem_map, beq_self_eq_true, Bool.and_self, ne_eq, not_true_eq_false, Bool.not_true, Bool.not_false]
      skip
      exact hK
     apply adraw_step rfl
     ·intro K hK
      simp (disch := first | omega | decide) only [go_sem, f4, f5, f7, f9, hp, e1, e2, e3, e4, act_load_t ti34, List.map, List.length_nil, List.length_map, List.getElem_map, beq_self_eq_true, Bool.and_self, ne_eq, not_true_eq_false, Bool.not_true, Bool.not_false]
      rw [mwp_load_is (by simp)]
      exact hK
     iterate 4 (apply adraw_step rfl; · (intro K hK; simp (disch := first | omega | decide) only [go_sem, f4, f5, f7, f9, hp, e1, e2, e3, e4, bin_neq_s us34 fl34 eg34, List.length_nil, List.length_map, List.getElem_map, beq_self_eq_true, Bool.and_self, ne_eq, not_true_eq_false, Bool.not_true, Bool.not_false]; exact hK))
     apply adraw_step rfl
     ·intro K hK
      simp (disch := first | omega | decide) only [go_sem, f4, f5, f7, f9, hp, e1, e2, e3, e4, act_indexAddr_s u26 ti3, List.map, List.length_nil, List.length_map, List.getElem_map, beq_self_eq_true, Bool.and_self, ne_eq, not_true_eq_false, Bool.not_true, Bool.not_false]
      skip
      exact hK
     apply adraw_step rfl
     ·intro K hK
      simp (disch := first | omega | decide) only [go_sem, f4, f5, f7, f9, hp, e1, e2, e3, e4, act_load_t ti3, List.map, List.length_nil, List.length_map, List.getElem_map, beq_self_eq_true, Bool.and_self, ne_eq, not_true_eq_false, Bool.not_true, Bool.not_false]
      skip
      exact hK
     iterate 2 (apply adraw_step rfl; · (intro K hK; simp (disch := first | omega | decide) only [go_sem, f4, f5, f7, f9, hp, e1, e2, e3, e4, List.length_nil, List.length_map, List.getElem_map, beq_self_eq_true, Bool.and_self, ne_eq, not_true_eq_false, Bool.not_true, Bool.not_false]; exact hK))
     apply adraw_step rfl
     ·intro K hK
      simp (disch := first | omega | decide) only [go_sem, f4, f5, f7, f9, hp, e1, e2, e3, e4, act_indexAddr_s u28 ti34, List.map, List.length_nil, List.length_map, List.getElem_map, beq_self_eq_true, Bool.and_self, ne_eq, not_true_eq_false, Bool.not_true, Bool.not_false]
      skip
      exact hK
     apply adraw_step rfl
     ·intro K hK
      simp (disch := first | omega | decide) only [go_sem, f4, f5, f7, f9, hp, e1, e2, e3, e4, act_fieldAddr_t fo34_0, List.map, List.length_nil, List.length_map, List.getElem_map, beq_self_eq_true, Bool.and_self, ne_eq, not_true_eq_false, Bool.not_true, Bool.not_false]
      skip
      exact hK
     apply adraw_step rfl
     ·intro K hK
      simp (disch := first | omega | decide) only [go_sem, f4, f5, f7, f9, hp, e1, e2, e3, e4, act_load_t ti3, List.map, List.length_nil, List.length_map, List.getElem_map, beq_self_eq_true, Bool.and_self, ne_eq, not_true_eq_false, Bool.not_true, Bool.not_false]
      rw [mwp_load_i1 (by rfl)]
      exact hK
     iterate 2 (apply adraw_step rfl; · (intro K hK; simp (disch := first | omega | decide) only [go_sem, f4, f5, f7, f9, hp, e1, e2, e3, e4, List.length_nil, List.length_map, List.getElem_map, beq_self_eq_true, Bool.and_self, ne_eq, not_true_eq_false, Bool.not_true, Bool.not_false]; exact hK))
     refine adraw_nil (by kernel_rfl) ?_
     apply AW.cond
     ·(simp only [go_sem, f4, f5, f7, f9, hp, e1, e2, e3, e4, List.length_nil, List.length_map, List.getElem_map, beq_self_eq_true, Bool.and_self, ne_eq, not_true_eq_false, Bool.not_true, Bool.not_false]; rfl)
     case ht => intro hb; simp at hb
     case hf =>
     intro hb
     have hbt110 := hb
     refine AW.skip ?_
     refine AW.region (cfg := cfg) ?_
     iterate 3 (apply aops_step (by decide) rfl; · (intro K hK; simp (disch := first | omega | decide) only [go_sem, f4, f5, f7, f9, hp, e1, e2, e3, e4, List.length_nil, List.length_map, List.getElem_map, beq_self_eq_true, Bool.and_self, ne_eq, not_true_eq_false, Bool.not_true, Bool.not_false]; exact hK _))
     refine aops_nil ?_
     refine ⟨_, _, rfl, ?_, ?_, ?_, ?_, (by intro i; simp [Mem.set, hr]), (by exact hG)⟩ <;> try simp (disch := first | omega | decide) only [go_sem, f4, f5, f7, f9, hp, e1, e2, e3, e4, List.length_nil, List.length_map, List.getElem_map, beq_self_eq_true, Bool.and_self, ne_eq, not_true_eq_false, Bool.not_true, Bool.not_false]
     all_goals rfl
    ·clear f3 f4 f5 f6 f7 f8 hr hG
     rintro σ ⟨s, m, rfl, f4, f5, f7, f9, hr, hG⟩
     refine AW.seq ?_
     refine AW.sr (cfg := cfg) ?_
     iterate 4 (apply aops_step (by decide) rfl; · (intro K hK; simp (disch := first | omega | decide) only [go_sem, f4, f5, f7, f9, hp, e1, e2, e3, e4, List.map, List.length_map, aops_len u28, List.length_nil, List.getElem_map, beq_self_eq_true, Bool.and_self, ne_eq, not_true_eq_false, Bool.not_true, Bool.not_false]; exact hK _))
     refine aops_nil ?_
     apply AW.cond
     ·(simp only [go_sem, f4, f5, f7, f9, hp, e1, e2, e3, e4, List.length_nil, List.length_map, List.getElem_map, beq_self_eq_true, Bool.and_self, ne_eq, not_true_eq_false, Bool.not_true, Bool.not_false]; rfl)
     case ht => intro hb; (simp at hb; done)
     case hf =>
     intro hb
     have hbt87 := hb
     refine AW.exit ?_
     refine AW.sr (cfg := cfg) ?_
     apply aops_step (by decide) rfl
     ·intro K hK
      simp (disch := first | omega | decide) only [go_sem, f4, f5, f7, f9, hp, e1, e2, e3, e4, act_call, List.map, List.length_nil, List.length_map, List.getElem_map, beq_self_eq_true, Bool.and_self, ne_eq, not_true_eq_false, Bool.not_true, Bool.not_false]
      apply mwp_call_s rfl rfl rfl
      ·intro Q hQ
       (simp (disch := first | omega | decide) only [go_sem, f4, f5, f7, f9, hp, e1, e2, e3, e4, peekL, reifyL_nil, reifyL_cons, reify_v, List.length_nil, List.length_map, List.getElem_map, beq_self_eq_true, Bool.and_self, ne_eq, not_true_eq_false, Bool.not_true, Bool.not_false]; (exact hQ))
      ·exact good_awakeT
      ·simp [-List.map_take, -List.map_drop, -List.map_append, -List.map_replicate, -List.reduceReplicate, noPtrL, noPtr, noPtrL_bsl, noPtrL_map, sub]
      ·rfl
      ·exact hK _
     iterate 1 (apply aops_step (by decide) rfl; · (intro K hK; simp (disch := first | omega | decide) only [go_sem, f4, f5, f7, f9, hp, e1, e2, e3, e4, List.length_nil, List.length_map, List.getElem_map, beq_self_eq_true, Bool.and_self, ne_eq, not_true_eq_false, Bool.not_true, Bool.not_false]; exact hK _))
     refine aops_nil ?_
     refine AW.ret ?_
     refine ⟨.inr rfl, ?_⟩
     apply Exists.intro
     refine leaves_tmp1 2 rfl ?_ (by rfl)
     simp (disch := first | omega | decide) only [go_sem, f4, f5, f7, f9, hp, e1, e2, e3, e4, List.length_nil, List.length_map, List.getElem_map, beq_self_eq_true, Bool.and_self, ne_eq, not_true_eq_false, Bool.not_true, Bool.not_false]
     all_goals first | done | rfl | trace_state

end Go.Vai.T
