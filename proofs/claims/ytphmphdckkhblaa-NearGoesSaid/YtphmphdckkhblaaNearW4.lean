import Derived.Test.YtphmphdckkhblaaNearW
namespace Go.Vai.N
open Go.Proofs Go.Vai
set_option linter.unusedSimpArgs false
set_option linter.unusedVariables false
theorem u4 : Try.prog.underlying 4 = some .bool := by kernel_rfl
theorem us47 : isStruct Try.prog 47 = true := by kernel_rfl
theorem fl47 : flatT Try.prog 5 47 = some [.i, .i, .i, .i, .b, .b, .i, .b] := by kernel_rfl
theorem eg47 : Try.prog.eqGuardType Try.prog.depth 47 = false := by kernel_rfl
theorem u80 : Try.prog.underlying 80 = some (.slice 82) := by kernel_rfl
theorem ti82 : tiOf Try.prog 82 = some ⟨3, 24, [.base (.int .i64 0), .base (.int .i64 0), .base (.bool false)], true⟩ := by kernel_rfl
theorem fo82_0 : fieldOf Try.prog 82 0 = some (0, 1) := by kernel_rfl
theorem fo82_1 : fieldOf Try.prog 82 1 = some (1, 1) := by kernel_rfl
theorem fo82_2 : fieldOf Try.prog 82 2 = some (2, 1) := by kernel_rfl

structure StepS where
  d : Int
  m : Int
  h : Bool
def stepA (s : StepS) : AV := .agg [i64 s.d, i64 s.m, .b s.h]
theorem cellsOf_step (s : StepS) : cellsOf (stepA s) = [i64 s.d, i64 s.m, .b s.h] := rfl
theorem peek_near {n : Near} : True := trivial
def okStep (n n' : Near) (d u : Bool) : Prop := bad n' = false ∧ n'.of = n.of ∧ (d = true → n.fu = true) ∧ (u = true → n'.fu = true) ∧ n'.fu = ((n.fu && !d) || u) ∧ n.bo ≤ n'.bo ∧ (n'.fu = true → n'.he = true) ∧ n'.ag ≤ 4 ∧ 0 ≤ n'.ag
theorem hello_step (n : Near) (b : Int) (h : Bool) (e1 : bad n = false) : helloE n b = 0 → okStep n (helloN n b h) (helloD n b h) (helloU n b h) := by
  intro e2
  have e3 : wi b 1 1073741824 = true := by
    cases c : wi b 1 1073741824 with
    | true => rfl
    | false => simp [helloE, hBad, c] at e2
  obtain ⟨p1, p2, p3, p4, p5, p6⟩ := hello_ok n b h e1 e3
  rw [p1, p2, p3]
  refine ⟨p5, ?_⟩
  clear p1 p2 p3 p4 p5 p6 e2
  obtain ⟨of, co, bo, ep, he, fu, ag, go⟩ := n
  by_cases c1 : b < bo <;> by_cases c2 : co = 0 <;> by_cases c3 : b = bo <;> cases he <;> cases fu <;> cases go <;> cases h <;> simp_all [helloN, helloD, helloU, helloE, hBad, hStay, h2, hUp, h1, hDown, zn, gone, lost, rHelloN, rHelloD, rHelloU, rStay, rKeep, tickN, tickD, costN, costD, costE, costBad, rTickN, rTickD, rCostN, rCostD, bad, okA, wi] <;> first | omega | grind
theorem tick_step (n : Near) (e1 : bad n = false) : okStep n (tickN n) (tickD n) false ∧ ((tickN n).he = true → n.he = true ∧ (tickN n).ag = n.ag + 1) := by
  obtain ⟨p1, p2, p3⟩ := tick_ok n e1
  rw [p1, p2]
  refine ⟨⟨p3, ?_⟩, ?_⟩
  all_goals clear p1 p2 p3
  all_goals obtain ⟨of, co, bo, ep, he, fu, ag, go⟩ := n
  all_goals (by_cases c3 : ag = 4 <;> cases he <;> cases fu <;> cases go <;> simp_all [helloN, helloD, helloU, helloE, hBad, hStay, h2, hUp, h1, hDown, zn, gone, lost, rHelloN, rHelloD, rHelloU, rStay, rKeep, tickN, tickD, costN, costD, costE, costBad, rTickN, rTickD, rCostN, rCostD, bad, okA, wi] <;> first | omega | grind)
theorem cost_step (n : Near) (c : Int) (e1 : bad n = false) : costE n c = 0 → okStep n (costN n c) (costD n c) false ∧ ((costN n c).he = true → n.he = true ∧ (costN n c).ag = n.ag) := by
  intro e2
  have e3 : wi c 0 1073741824 = true := by
    cases c1 : wi c 0 1073741824 with
    | true => rfl
    | false => simp [costE, costBad, c1] at e2
  obtain ⟨p1, p2, p3, p4⟩ := cost_ok n c e1 e3
  rw [p1, p2]
  refine ⟨⟨p4, ?_⟩, ?_⟩
  all_goals clear p1 p2 p3 p4 e2
  all_goals obtain ⟨of, co, bo, ep, he, fu, ag, go⟩ := n
  all_goals (by_cases c3 : c = 0 <;> cases he <;> cases fu <;> cases go <;> simp_all [helloN, helloD, helloU, helloE, hBad, hStay, h2, hUp, h1, hDown, zn, gone, lost, rHelloN, rHelloD, rHelloU, rStay, rKeep, tickN, tickD, costN, costD, costE, costBad, rTickN, rTickD, rCostN, rCostD, bad, okA, wi] <;> first | omega | grind)
theorem bad_start (of : Int) (h : 1 ≤ of ∧ of ≤ 64) : bad ⟨of, 1, 0, 0, false, false, 0, false⟩ = false := by simp [bad, okA, wi]; omega

set_option maxHeartbeats 4000000 in
set_option maxRecDepth 100000 in
theorem good_NearGoes (o : Int) (nil : Bool) (l : List StepS) (hl : l.length ≤ 9223372036854775807) : Good Try.prog 13 [(i64 o, false), (.sl 3 nil (l.map stepA), false)] [] [(.b true, false)] [] := by
  refine good_of_body2 131 Try.func13 rfl rfl rfl (by simp) ?_
  intro s m ha hr hv hG
  have f0 : s 0 = .v (i64 o) := ha 0 _ rfl
  have f1 : s 1 = .v (.sl 3 nil (l.map stepA)) := ha 1 _ rfl
  clear ha
  refine AW.seq ?_
  refine AW.region (cfg := cfg) ?_
  iterate 1 (apply aops_step (by decide) rfl; · (intro K hK; simp (disch := first | omega | decide) only [go_sem, f0, f1, cellsOf_step]; exact hK _))
  refine aops_nil ?_
  refine AW.seq ?_
  refine AW.seq ?_
  refine AW.region (cfg := cfg) ?_
  iterate 3 (apply aops_step (by decide) rfl; · (intro K hK; simp (disch := first | omega | decide) only [go_sem, f0, f1, cellsOf_step]; exact hK _))
  apply aops_merge' (by decide) (by first | exact want_of (d := 14) rfl (by simp (disch := first | omega | decide) only [go_sem, f0, f1, opn_cond, cellsOf_step]; rfl) | exact want_of_cond (d := 14) rfl (by simp (disch := first | omega | decide) only [go_sem, f0, f1, opn_cond, cellsOf_step]; rfl))
  · intro hc K hK
    have hc2 := hc
    simp only [beq_iff_eq, decide_eq_true_eq, decide_eq_false_iff_not, Bool.or_eq_true, Bool.and_eq_true, Bool.or_eq_false_iff, Bool.and_eq_false_iff] at hc2
    simp (disch := first | omega | decide) only [go_sem, f0, f1, opn_cond, hc, if_true, cellsOf_step]
    exact hK _
  apply aops_merge' (by decide) (by first | exact want_of (d := 14) rfl (by simp (disch := first | omega | decide) only [go_sem, f0, f1, opn_cond, cellsOf_step]; rfl) | exact want_of_cond (d := 14) rfl (by simp (disch := first | omega | decide) only [go_sem, f0, f1, opn_cond, cellsOf_step]; rfl))
  · intro hc K hK
    have hc2 := hc
    simp only [beq_iff_eq, decide_eq_true_eq, decide_eq_false_iff_not, Bool.or_eq_true, Bool.and_eq_true, Bool.or_eq_false_iff, Bool.and_eq_false_iff] at hc2
    simp (disch := first | omega | decide) only [go_sem, f0, f1, opn_cond, hc, if_true, cellsOf_step]
    exact hK _
  iterate 2 (apply aops_step (by decide) rfl; · (intro K hK; simp (disch := first | omega | decide) only [go_sem, f0, f1, cellsOf_step]; exact hK _))
  apply aops_merge' (by decide) (by first | exact want_of (d := 18) rfl (by simp (disch := first | omega | decide) only [go_sem, f0, f1, opn_cond, cellsOf_step]; rfl) | exact want_of_cond (d := 18) rfl (by simp (disch := first | omega | decide) only [go_sem, f0, f1, opn_cond, cellsOf_step]; rfl))
  · intro hc K hK
    have hc2 := hc
    simp only [beq_iff_eq, decide_eq_true_eq, decide_eq_false_iff_not, Bool.or_eq_true, Bool.and_eq_true, Bool.or_eq_false_iff, Bool.and_eq_false_iff] at hc2
    simp (disch := first | omega | decide) only [go_sem, f0, f1, opn_cond, hc, if_true, cellsOf_step]
    exact hK _
  apply aops_merge' (by decide) (by first | exact want_of (d := 18) rfl (by simp (disch := first | omega | decide) only [go_sem, f0, f1, opn_cond, cellsOf_step]; rfl) | exact want_of_cond (d := 18) rfl (by simp (disch := first | omega | decide) only [go_sem, f0, f1, opn_cond, cellsOf_step]; rfl))
  · intro hc K hK
    have hc2 := hc
    simp only [beq_iff_eq, decide_eq_true_eq, decide_eq_false_iff_not, Bool.or_eq_true, Bool.and_eq_true, Bool.or_eq_false_iff, Bool.and_eq_false_iff] at hc2
    simp (disch := first | omega | decide) only [go_sem, f0, f1, opn_cond, hc, if_true, List.map, List.length_map, aops_len u80, cellsOf_step]
    exact hK _
  apply aops_merge' (by decide) (by first | exact want_of (d := 18) rfl (by simp (disch := first | omega | decide) only [go_sem, f0, f1, opn_cond, cellsOf_step]; rfl) | exact want_of_cond (d := 18) rfl (by simp (disch := first | omega | decide) only [go_sem, f0, f1, opn_cond, cellsOf_step]; rfl))
  · intro hc K hK
    have hc2 := hc
    simp only [beq_iff_eq, decide_eq_true_eq, decide_eq_false_iff_not, Bool.or_eq_true, Bool.and_eq_true, Bool.or_eq_false_iff, Bool.and_eq_false_iff] at hc2
    simp (disch := first | omega | decide) only [go_sem, f0, f1, opn_cond, hc, if_true, cellsOf_step]
    exact hK _
  iterate 1 (apply aops_step (by decide) rfl; · (intro K hK; simp (disch := first | omega | decide) only [go_sem, f0, f1, cellsOf_step]; exact hK _))
  refine aops_nil ?_
  apply AW.cond
  · simp (disch := first | omega | decide) only [go_sem, f0, f1, cellsOf_step]; rfl
  case ht =>
    intro hb
    try simp only [Bool.or_eq_true, Bool.and_eq_true, Bool.or_eq_false_iff, Bool.and_eq_false_iff, decide_eq_true_eq, decide_eq_false_iff_not] at hb
    have hbt22 := hb
    refine AW.seq ?_
    refine AW.region (cfg := cfg) ?_
    apply aops_step (by decide) rfl
    · intro K hK
      simp (disch := first | omega | decide) only [go_sem, f0, f1, act_call, List.map, cellsOf_step]
      apply mwp_call_s rfl rfl rfl
      · intro Q hQ
        simp (disch := first | omega | decide) only [go_sem, f0, f1, peekL, reifyL_nil, reifyL_cons, reify_v, cellsOf_step]
        first | exact hQ | ((first | rw [peek_own (by simp (disch := first | omega | decide) only [go_sem, f0, f1, peekL, cellsOf_step]; rfl)] | rw [mwp_reify_own (by simp (disch := first | omega | decide) only [go_sem, f0, f1, peekL, cellsOf_step]; rfl)]); exact hQ) | ((first | rw [peek_own (by simp (disch := first | omega | decide) only [go_sem, f0, f1, peekL, cellsOf_step]; rfl)] | rw [mwp_reify_own (by simp (disch := first | omega | decide) only [go_sem, f0, f1, peekL, cellsOf_step]; rfl)]); simp (disch := first | omega | decide) only [go_sem, f0, f1, peekL, cellsOf_step]; (first | rw [peek_own (by simp (disch := first | omega | decide) only [go_sem, f0, f1, peekL, cellsOf_step]; rfl)] | rw [mwp_reify_own (by simp (disch := first | omega | decide) only [go_sem, f0, f1, peekL, cellsOf_step]; rfl)]); exact hQ) | ((first | rw [peek_own (by simp (disch := first | omega | decide) only [go_sem, f0, f1, peekL, cellsOf_step]; rfl)] | rw [mwp_reify_own (by simp (disch := first | omega | decide) only [go_sem, f0, f1, peekL, cellsOf_step]; rfl)]); simp (disch := first | omega | decide) only [go_sem, f0, f1, peekL, cellsOf_step]; exact hQ)
      · exact good_awake
      · simp [-List.map_take, -List.map_drop, noPtrL, noPtr, noPtrL_bsl, noPtrL_map, sub]
      · rfl
      · exact hK _
    iterate 1 (apply aops_step (by decide) rfl; · (intro K hK; simp (disch := first | omega | decide) only [go_sem, f0, f1, cellsOf_step]; exact hK _))
    refine aops_nil ?_
    refine AW.ret ?_
    refine ⟨.inr rfl, ?_⟩
    refine leaves_tmp1 4 rfl ?_ (by first | rfl | exact hG)
    simp (disch := first | omega | decide) only [go_sem, f0, f1, cellsOf_step]
    all_goals first | done | (exfalso; simp only [okStep] at s1 s2 s3; simp only [ne_eq, Decidable.not_not] at hbt79; first | (have y := s1 hbt79; clear s1 s2 s3; grind) | (have y := s2; clear s1 s2 s3; grind) | (have y := s3 hbt79; clear s1 s2 s3; grind)) | trace_state
  case hf =>
    intro hb
    try simp only [Bool.or_eq_true, Bool.and_eq_true, Bool.or_eq_false_iff, Bool.and_eq_false_iff, decide_eq_true_eq, decide_eq_false_iff_not] at hb
    have hbt22 := hb
    refine AW.skip ?_
    refine AW.seq ?_
    refine AW.region (cfg := cfg) ?_
    iterate 1 (apply aops_step (by decide) rfl; · (intro K hK; simp (disch := first | omega | decide) only [go_sem, f0, f1, cellsOf_step]; exact hK _))
    apply aops_step (by decide) rfl
    · intro K hK
      simp (disch := first | omega | decide) only [go_sem, f0, f1, act_build_t ti47 pl47, List.map, cellsOf_step]
      simp [-List.map_take, -List.map_drop, fillL, okOne, cellishAV, Value.oneCell', cellsL, cellsOf, setAt, M.bind, Mwp]
      exact hK _
    apply aops_step (by decide) rfl
    · intro K hK
      simp (disch := first | omega | decide) only [go_sem, f0, f1, act_alloc_t ti47, List.map, cellsOf_step]
      exact hK _
    apply aops_step0 rfl
    · intro K hK
      simp (disch := first | omega | decide) only [go_sem, f0, f1, act_store_t ti47, List.map, cellsOf_step]
      first | rw [mwp_store_g1 (by first | (rw [hG]; rfl) | rfl) (by simp) rfl rfl] | rw [mwp_store_c (by simp (disch := first | omega | decide) only [go_sem, f0, f1, cellsOf_step]; rfl) (by rfl) (by rfl) (by rfl) (by simp)] | rw [mwp_aStore_map (by simp (disch := first | omega | decide) only [go_sem, f0, f1, cellsOf_step]; rfl) (by first | omega | (simp; omega)) (fun _ => rfl) rfl rfl (fun _ => rfl)] | skip
      try simp only [setAt, cellsL, cellsOf_agg, cellsOf_base, List.map_cons, List.map_nil, List.set_cons_zero, List.set_cons_succ, Nat.reduceAdd, Nat.zero_add, hG]
      exact hK _
    refine aops_nil ?_
    refine AW.seq ?_
    refine AW.region (cfg := cfg) ?_
    iterate 1 (apply aops_step (by decide) rfl; · (intro K hK; simp (disch := first | omega | decide) only [go_sem, f0, f1, cellsOf_step]; exact hK _))
    refine aops_nil ?_
    refine AW.seq ?_
    refine AW.seq ?_
    refine AW.region (cfg := cfg) ?_
    iterate 1 (apply aops_step (by decide) rfl; · (intro K hK; simp (disch := first | omega | decide) only [go_sem, f0, f1, cellsOf_step]; exact hK _))
    refine aops_nil ?_
    refine AW.block ?_
    refine AW.forN (fun k σ => ∃ s m of co bo ep he fu ag go si, σ = ⟨131, s, m⟩ ∧ s 0 = .v (i64 o) ∧ s 1 = .v (.sl 3 nil (l.map stepA)) ∧ s 5 = .lptr (.tmp 5 0) (m.objs (.tmp 5 0)).1 0 ∧ (m.objs (.tmp 5 0)).2 = .box [.v (i64 of), .v (i64 co), .v (i64 bo), .v (i64 ep), .v (.b he), .v (.b fu), .v (i64 ag), .v (.b go)] ∧ s 6 = .v (i64 si) ∧ s 7 = .v (i64 (k : Int)) ∧ (bad (⟨of, co, bo, ep, he, fu, ag, go⟩ : Near) = false) ∧ (of = o) ∧ (0 ≤ si ∧ si ≤ (k : Int)) ∧ (he = true → si ≤ ag) ∧ m.G = []) (l.length) ?_ ?_ ?_
    · refine ⟨_, _, ?_, ?_, ?_, ?_, ?_, ?_, ?_, ?_, ?_, rfl, ?_, ?_, ?_, ?_, ?_, ?_, ?_, ?_, ?_, ?_, hG⟩ <;> try simp (disch := first | omega | decide) only [go_sem, f0, f1, cellsOf_step]
      all_goals first | rfl | skip
      all_goals first | exact bad_start _ (by omega) | rfl | omega | (intro z; cases z) | trace_state
    · clear f0 f1 hG
      rintro k σ hk ⟨s, m, of, co, bo, ep, he, fu, ag, go, si, rfl, f0, f1, f5, o5, f6, f7, mo0, mo1, mo2, mo3, hG⟩
      obtain ⟨g5, o5⟩ : ∃ g, m.objs (.tmp 5 0) = (g, .box [.v (i64 of), .v (i64 co), .v (i64 bo), .v (i64 ep), .v (.b he), .v (.b fu), .v (i64 ag), .v (.b go)]) := ⟨_, Prod.ext rfl o5⟩
      rw [o5] at f5
      refine AW.seq ?_
      refine AW.seq ?_
      refine AW.region (cfg := cfg) ?_
      iterate 4 (apply aops_step (by decide) rfl; · (intro K hK; simp (disch := first | omega | decide) only [go_sem, f0, f1, f5, f6, f7, o5, List.map, List.length_map, aops_len u80, cellsOf_step]; exact hK _))
      refine aops_nil ?_
      apply AW.cond
      · simp (disch := first | omega | decide) only [go_sem, f0, f1, f5, f6, f7, o5, cellsOf_step]; rfl
      case hf => intro hb; first | (simp at hb; done) | (simp at hb; omega)
      case ht =>
      intro hb
      have hbt29 := hb
      refine AW.skip ?_
      refine AW.seq ?_
      refine AW.block ?_
      refine AW.seq ?_
      refine AW.region (cfg := cfg) ?_
      apply aops_step (by decide) rfl
      · intro K hK
        simp (disch := first | omega | decide) only [go_sem, f0, f1, f5, f6, f7, o5, act_load_t ti47, List.map, cellsOf_step]
        first | rw [mwp_load_i1 (by rfl)] | rw [mwp_load_g1 (by first | (rw [hG]; rfl) | rfl) (by rfl)] | rw [mwp_load_gs (by first | (rw [hG]; rfl) | rfl) (by simp)] | rw [mwp_load_bs (by simp (disch := first | omega | decide) only [go_sem, f0, f1, f5, f6, f7, o5, cellsOf_step]; rfl) (by simp [setAt])] | rw [mwp_load_b1 (by simp (disch := first | omega | decide) only [go_sem, f0, f1, f5, f6, f7, o5, cellsOf_step]; rfl) (by rfl)] | rw [mwp_aLoad_map (by simp (disch := first | omega | decide) only [go_sem, f0, f1, f5, f6, f7, o5, cellsOf_step]; rfl) (by first | omega | (simp; omega)) (fun _ => rfl)] | rw [mwp_aLoad_e1 (by simp (disch := first | omega | decide) only [go_sem, f0, f1, f5, f6, f7, o5, cellsOf_step]; rfl) (by simp) rfl] | skip
        exact hK _
      apply aops_step (by decide) rfl
      · intro K hK
        simp (disch := first | omega | decide) only [go_sem, f0, f1, f5, f6, f7, o5, act_alloc_t ti47, List.map, cellsOf_step]
        exact hK _
      apply aops_step0 rfl
      · intro K hK
        simp (disch := first | omega | decide) only [go_sem, f0, f1, f5, f6, f7, o5, act_store_t ti47, List.map, cellsOf_step]
        first | rw [mwp_store_g1 (by first | (rw [hG]; rfl) | rfl) (by simp) rfl rfl] | rw [mwp_store_c (by simp (disch := first | omega | decide) only [go_sem, f0, f1, f5, f6, f7, o5, cellsOf_step]; rfl) (by rfl) (by rfl) (by rfl) (by simp)] | rw [mwp_aStore_map (by simp (disch := first | omega | decide) only [go_sem, f0, f1, f5, f6, f7, o5, cellsOf_step]; rfl) (by first | omega | (simp; omega)) (fun _ => rfl) rfl rfl (fun _ => rfl)] | skip
        try simp only [setAt, cellsL, cellsOf_agg, cellsOf_base, List.map_cons, List.map_nil, List.set_cons_zero, List.set_cons_succ, Nat.reduceAdd, Nat.zero_add, hG]
        exact hK _
      refine aops_nil ?_
      refine AW.seq ?_
      refine AW.region (cfg := cfg) ?_
      iterate 2 (apply aops_step (by decide) rfl; · (intro K hK; simp (disch := first | omega | decide) only [go_sem, f0, f1, f5, f6, f7, o5, cellsOf_step]; exact hK _))
      refine aops_nil ?_
      refine AW.seq ?_
      refine AW.region (cfg := cfg) ?_
      iterate 1 (apply aops_step (by decide) rfl; · (intro K hK; simp (disch := first | omega | decide) only [go_sem, f0, f1, f5, f6, f7, o5, cellsOf_step]; exact hK _))
      refine aops_nil ?_
      refine AW.seq ?_
      refine AW.seq ?_
      have s1 := hello_step (⟨of, co, bo, ep, he, fu, ag, go⟩ : Near) l[k].m l[k].h mo0
      have s2 := tick_step (⟨of, co, bo, ep, he, fu, ag, go⟩ : Near) mo0
      have s3 := cost_step (⟨of, co, bo, ep, he, fu, ag, go⟩ : Near) l[k].m mo0
      have r0 : 0 ≤ ag := (okA_range mo0).2.2.2.2.1
      refine AW.region (cfg := cfg) ?_
      iterate 2 (apply aops_step (by decide) rfl; · (intro K hK; simp (disch := first | omega | decide) only [go_sem, f0, f1, f5, f6, f7, o5, cellsOf_step]; exact hK _))
      apply aops_step (by decide) rfl
      · intro K hK
        simp (disch := first | omega | decide) only [go_sem, f0, f1, f5, f6, f7, o5, act_indexAddr_s u80 ti82, List.map, cellsOf_step]
        first | rw [mwp_aIndex_own (by simp (disch := first | omega | decide) only [go_sem, f0, f1, f5, f6, f7, o5, cellsOf_step]; rfl) (by first | omega | (simp; omega)) (by first | omega | (simp; omega))] | skip
        exact hK _
      apply aops_step (by decide) rfl
      · intro K hK
        simp (disch := first | omega | decide) only [go_sem, f0, f1, f5, f6, f7, o5, act_fieldAddr_t fo82_0, List.map, cellsOf_step]
        first | rw [mwp_fieldAddr_b (by simp (disch := first | omega | decide) only [go_sem, f0, f1, f5, f6, f7, o5, cellsOf_step]; rfl)] | skip
        exact hK _
      apply aops_step (by decide) rfl
      · intro K hK
        simp (disch := first | omega | decide) only [go_sem, f0, f1, f5, f6, f7, o5, act_load_t ti3, List.map, cellsOf_step]
        first | rw [mwp_load_i1 (by rfl)] | rw [mwp_load_g1 (by first | (rw [hG]; rfl) | rfl) (by rfl)] | rw [mwp_load_gs (by first | (rw [hG]; rfl) | rfl) (by simp)] | rw [mwp_load_bs (by simp (disch := first | omega | decide) only [go_sem, f0, f1, f5, f6, f7, o5, cellsOf_step]; rfl) (by simp [setAt])] | rw [mwp_load_b1 (by simp (disch := first | omega | decide) only [go_sem, f0, f1, f5, f6, f7, o5, cellsOf_step]; rfl) (by rfl)] | rw [mwp_aLoad_map (by simp (disch := first | omega | decide) only [go_sem, f0, f1, f5, f6, f7, o5, cellsOf_step]; rfl) (by first | omega | (simp; omega)) (fun _ => rfl)] | rw [mwp_aLoad_e1 (by simp (disch := first | omega | decide) only [go_sem, f0, f1, f5, f6, f7, o5, cellsOf_step]; rfl) (by simp) rfl] | skip
        exact hK _
      refine aops_nil ?_
      refine AW.block ?_
      refine AW.seq ?_
      refine AW.region (cfg := cfg) ?_
      iterate 2 (apply aops_step (by decide) rfl; · (intro K hK; simp (disch := first | omega | decide) only [go_sem, f0, f1, f5, f6, f7, o5, cellsOf_step]; exact hK _))
      refine aops_nil ?_
      apply AW.cond
      · simp (disch := first | omega | decide) only [go_sem, f0, f1, f5, f6, f7, o5, cellsOf_step]; rfl
      case ht =>
        intro hb
        try simp only [Bool.or_eq_true, Bool.and_eq_true, Bool.or_eq_false_iff, Bool.and_eq_false_iff, decide_eq_true_eq, decide_eq_false_iff_not] at hb
        have hbt49 := hb
        refine AW.seq ?_
        refine AW.draw (cfg := cfg) (by kernel_rfl) (by kernel_rfl) (by kernel_rfl) ?_
        apply adraw_step rfl
        · intro K hK
          simp (disch := first | omega | decide) only [go_sem, f0, f1, f5, f6, f7, o5, act_load_t ti47, List.map, cellsOf_step]
          first | rw [mwp_load_i1 (by rfl)] | rw [mwp_load_g1 (by first | (rw [hG]; rfl) | rfl) (by rfl)] | rw [mwp_load_gs (by first | (rw [hG]; rfl) | rfl) (by simp)] | rw [mwp_load_bs (by simp (disch := first | omega | decide) only [go_sem, f0, f1, f5, f6, f7, o5, cellsOf_step]; rfl) (by simp [setAt])] | rw [mwp_load_b1 (by simp (disch := first | omega | decide) only [go_sem, f0, f1, f5, f6, f7, o5, cellsOf_step]; rfl) (by rfl)] | rw [mwp_aLoad_map (by simp (disch := first | omega | decide) only [go_sem, f0, f1, f5, f6, f7, o5, cellsOf_step]; rfl) (by first | omega | (simp; omega)) (fun _ => rfl)] | rw [mwp_aLoad_e1 (by simp (disch := first | omega | decide) only [go_sem, f0, f1, f5, f6, f7, o5, cellsOf_step]; rfl) (by simp) rfl] | skip
          exact hK
        iterate 2 (apply adraw_step rfl; · (intro K hK; simp (disch := first | omega | decide) only [go_sem, f0, f1, f5, f6, f7, o5, cellsOf_step]; exact hK))
        apply adraw_step rfl
        · intro K hK
          simp (disch := first | omega | decide) only [go_sem, f0, f1, f5, f6, f7, o5, act_indexAddr_s u80 ti82, List.map, cellsOf_step]
          first | rw [mwp_aIndex_own (by simp (disch := first | omega | decide) only [go_sem, f0, f1, f5, f6, f7, o5, cellsOf_step]; rfl) (by first | omega | (simp; omega)) (by first | omega | (simp; omega))] | skip
          exact hK
        apply adraw_step rfl
        · intro K hK
          simp (disch := first | omega | decide) only [go_sem, f0, f1, f5, f6, f7, o5, act_fieldAddr_t fo82_1, List.map, cellsOf_step]
          first | rw [mwp_fieldAddr_b (by simp (disch := first | omega | decide) only [go_sem, f0, f1, f5, f6, f7, o5, cellsOf_step]; rfl)] | skip
          exact hK
        apply adraw_step rfl
        · intro K hK
          simp (disch := first | omega | decide) only [go_sem, f0, f1, f5, f6, f7, o5, act_load_t ti3, List.map, cellsOf_step]
          first | rw [mwp_load_i1 (by rfl)] | rw [mwp_load_g1 (by first | (rw [hG]; rfl) | rfl) (by rfl)] | rw [mwp_load_gs (by first | (rw [hG]; rfl) | rfl) (by simp)] | rw [mwp_load_bs (by simp (disch := first | omega | decide) only [go_sem, f0, f1, f5, f6, f7, o5, cellsOf_step]; rfl) (by simp [setAt])] | rw [mwp_load_b1 (by simp (disch := first | omega | decide) only [go_sem, f0, f1, f5, f6, f7, o5, cellsOf_step]; rfl) (by rfl)] | rw [mwp_aLoad_map (by simp (disch := first | omega | decide) only [go_sem, f0, f1, f5, f6, f7, o5, cellsOf_step]; rfl) (by first | omega | (simp; omega)) (fun _ => rfl)] | rw [mwp_aLoad_e1 (by simp (disch := first | omega | decide) only [go_sem, f0, f1, f5, f6, f7, o5, cellsOf_step]; rfl) (by simp) rfl] | skip
          exact hK
        iterate 2 (apply adraw_step rfl; · (intro K hK; simp (disch := first | omega | decide) only [go_sem, f0, f1, f5, f6, f7, o5, cellsOf_step]; exact hK))
        apply adraw_step rfl
        · intro K hK
          simp (disch := first | omega | decide) only [go_sem, f0, f1, f5, f6, f7, o5, act_indexAddr_s u80 ti82, List.map, cellsOf_step]
          first | rw [mwp_aIndex_own (by simp (disch := first | omega | decide) only [go_sem, f0, f1, f5, f6, f7, o5, cellsOf_step]; rfl) (by first | omega | (simp; omega)) (by first | omega | (simp; omega))] | skip
          exact hK
        apply adraw_step rfl
        · intro K hK
          simp (disch := first | omega | decide) only [go_sem, f0, f1, f5, f6, f7, o5, act_fieldAddr_t fo82_2, List.map, cellsOf_step]
          first | rw [mwp_fieldAddr_b (by simp (disch := first | omega | decide) only [go_sem, f0, f1, f5, f6, f7, o5, cellsOf_step]; rfl)] | skip
          exact hK
        apply adraw_step rfl
        · intro K hK
          simp (disch := first | omega | decide) only [go_sem, f0, f1, f5, f6, f7, o5, act_load_t ti4, List.map, cellsOf_step]
          first | rw [mwp_load_i1 (by rfl)] | rw [mwp_load_g1 (by first | (rw [hG]; rfl) | rfl) (by rfl)] | rw [mwp_load_gs (by first | (rw [hG]; rfl) | rfl) (by simp)] | rw [mwp_load_bs (by simp (disch := first | omega | decide) only [go_sem, f0, f1, f5, f6, f7, o5, cellsOf_step]; rfl) (by simp [setAt])] | rw [mwp_load_b1 (by simp (disch := first | omega | decide) only [go_sem, f0, f1, f5, f6, f7, o5, cellsOf_step]; rfl) (by rfl)] | rw [mwp_aLoad_map (by simp (disch := first | omega | decide) only [go_sem, f0, f1, f5, f6, f7, o5, cellsOf_step]; rfl) (by first | omega | (simp; omega)) (fun _ => rfl)] | rw [mwp_aLoad_e1 (by simp (disch := first | omega | decide) only [go_sem, f0, f1, f5, f6, f7, o5, cellsOf_step]; rfl) (by simp) rfl] | skip
          exact hK
        apply adraw_step rfl
        · intro K hK
          simp (disch := first | omega | decide) only [go_sem, f0, f1, f5, f6, f7, o5, act_call, List.map, cellsOf_step]
          apply mwp_call_r rfl rfl rfl
          · intro Q hQ
            simp (disch := first | omega | decide) only [go_sem, f0, f1, f5, f6, f7, o5, peekL, reifyL_nil, reifyL_cons, reify_v, cellsOf_step]
            first | exact hQ | ((first | rw [peek_own (by simp (disch := first | omega | decide) only [go_sem, f0, f1, f5, f6, f7, o5, peekL, cellsOf_step]; rfl)] | rw [mwp_reify_own (by simp (disch := first | omega | decide) only [go_sem, f0, f1, f5, f6, f7, o5, peekL, cellsOf_step]; rfl)]); exact hQ) | ((first | rw [peek_own (by simp (disch := first | omega | decide) only [go_sem, f0, f1, f5, f6, f7, o5, peekL, cellsOf_step]; rfl)] | rw [mwp_reify_own (by simp (disch := first | omega | decide) only [go_sem, f0, f1, f5, f6, f7, o5, peekL, cellsOf_step]; rfl)]); simp (disch := first | omega | decide) only [go_sem, f0, f1, f5, f6, f7, o5, peekL, cellsOf_step]; (first | rw [peek_own (by simp (disch := first | omega | decide) only [go_sem, f0, f1, f5, f6, f7, o5, peekL, cellsOf_step]; rfl)] | rw [mwp_reify_own (by simp (disch := first | omega | decide) only [go_sem, f0, f1, f5, f6, f7, o5, peekL, cellsOf_step]; rfl)]); exact hQ) | ((first | rw [peek_own (by simp (disch := first | omega | decide) only [go_sem, f0, f1, f5, f6, f7, o5, peekL, cellsOf_step]; rfl)] | rw [mwp_reify_own (by simp (disch := first | omega | decide) only [go_sem, f0, f1, f5, f6, f7, o5, peekL, cellsOf_step]; rfl)]); simp (disch := first | omega | decide) only [go_sem, f0, f1, f5, f6, f7, o5, peekL, cellsOf_step]; exact hQ)
          · exact good_Hello (⟨of, co, bo, ep, he, fu, ag, go⟩ : Near) _ _
          · simp [-List.map_take, -List.map_drop, noPtrL, noPtr, noPtrL_bsl, noPtrL_map, sub]
          · simp (disch := first | omega | decide) only [go_sem, f0, f1, f5, f6, f7, o5, cellsOf_step]
            exact hK
        iterate 5 (apply adraw_step rfl; · (intro K hK; simp (disch := first | omega | decide) only [go_sem, f0, f1, f5, f6, f7, o5, cellsOf_step]; exact hK))
        apply adraw_step0 rfl
        · intro K hK
          simp (disch := first | omega | decide) only [go_sem, f0, f1, f5, f6, f7, o5, act_store_t ti47, List.map, cellsOf_step]
          first | rw [mwp_store_g1 (by first | (rw [hG]; rfl) | rfl) (by simp) rfl rfl] | rw [mwp_store_c (by simp (disch := first | omega | decide) only [go_sem, f0, f1, f5, f6, f7, o5, cellsOf_step]; rfl) (by rfl) (by rfl) (by rfl) (by simp)] | rw [mwp_aStore_map (by simp (disch := first | omega | decide) only [go_sem, f0, f1, f5, f6, f7, o5, cellsOf_step]; rfl) (by first | omega | (simp; omega)) (fun _ => rfl) rfl rfl (fun _ => rfl)] | skip
          try simp only [setAt, cellsL, cellsOf_agg, cellsOf_base, List.map_cons, List.map_nil, List.set_cons_zero, List.set_cons_succ, Nat.reduceAdd, Nat.zero_add, hG]
          exact hK
        iterate 3 (apply adraw_step rfl; · (intro K hK; simp (disch := first | omega | decide) only [go_sem, f0, f1, f5, f6, f7, o5, cellsOf_step]; exact hK))
        refine adraw_nil (by kernel_rfl) ?_
        refine AW.region (cfg := cfg) ?_
        iterate 1 (apply aops_step (by decide) rfl; · (intro K hK; simp (disch := first | omega | decide) only [go_sem, f0, f1, f5, f6, f7, o5, cellsOf_step]; exact hK _))
        refine aops_nil ?_
        refine AW.seq ?_
        refine AW.seq ?_
        refine AW.region (cfg := cfg) ?_
        iterate 2 (apply aops_step (by decide) rfl; · (intro K hK; simp (disch := first | omega | decide) only [go_sem, f0, f1, f5, f6, f7, o5, cellsOf_step]; exact hK _))
        refine aops_nil ?_
        apply AW.cond
        · simp (disch := first | omega | decide) only [go_sem, f0, f1, f5, f6, f7, o5, cellsOf_step]; rfl
        case ht =>
          intro hb
          try simp only [Bool.or_eq_true, Bool.and_eq_true, Bool.or_eq_false_iff, Bool.and_eq_false_iff, decide_eq_true_eq, decide_eq_false_iff_not] at hb
          have hbt79 := hb
          refine AW.seq ?_
          refine AW.region (cfg := cfg) ?_
          apply aops_step (by decide) rfl
          · intro K hK
            simp (disch := first | omega | decide) only [go_sem, f0, f1, f5, f6, f7, o5, act_load_t ti47, List.map, cellsOf_step]
            first | rw [mwp_load_i1 (by rfl)] | rw [mwp_load_g1 (by first | (rw [hG]; rfl) | rfl) (by rfl)] | rw [mwp_load_gs (by first | (rw [hG]; rfl) | rfl) (by simp)] | rw [mwp_load_bs (by simp (disch := first | omega | decide) only [go_sem, f0, f1, f5, f6, f7, o5, cellsOf_step]; rfl) (by simp [setAt])] | rw [mwp_load_b1 (by simp (disch := first | omega | decide) only [go_sem, f0, f1, f5, f6, f7, o5, cellsOf_step]; rfl) (by rfl)] | rw [mwp_aLoad_map (by simp (disch := first | omega | decide) only [go_sem, f0, f1, f5, f6, f7, o5, cellsOf_step]; rfl) (by first | omega | (simp; omega)) (fun _ => rfl)] | rw [mwp_aLoad_e1 (by simp (disch := first | omega | decide) only [go_sem, f0, f1, f5, f6, f7, o5, cellsOf_step]; rfl) (by simp) rfl] | skip
            exact hK _
          apply aops_step0 rfl
          · intro K hK
            simp (disch := first | omega | decide) only [go_sem, f0, f1, f5, f6, f7, o5, act_store_t ti47, List.map, cellsOf_step]
            first | rw [mwp_store_g1 (by first | (rw [hG]; rfl) | rfl) (by simp) rfl rfl] | rw [mwp_store_c (by simp (disch := first | omega | decide) only [go_sem, f0, f1, f5, f6, f7, o5, cellsOf_step]; rfl) (by rfl) (by rfl) (by rfl) (by simp)] | rw [mwp_aStore_map (by simp (disch := first | omega | decide) only [go_sem, f0, f1, f5, f6, f7, o5, cellsOf_step]; rfl) (by first | omega | (simp; omega)) (fun _ => rfl) rfl rfl (fun _ => rfl)] | skip
            try simp only [setAt, cellsL, cellsOf_agg, cellsOf_base, List.map_cons, List.map_nil, List.set_cons_zero, List.set_cons_succ, Nat.reduceAdd, Nat.zero_add, hG]
            exact hK _
          refine aops_nil ?_
          refine AW.exit ?_
          refine AW.region (cfg := cfg) ?_
          iterate 3 (apply aops_step (by decide) rfl; · (intro K hK; simp (disch := first | omega | decide) only [go_sem, f0, f1, f5, f6, f7, o5, cellsOf_step]; exact hK _))
          refine aops_nil ?_
          refine ⟨_, _, ?_, ?_, ?_, ?_, ?_, ?_, ?_, ?_, ?_, rfl, ?_, ?_, ?_, ?_, ?_, ?_, ?_, ?_, ?_, ?_, hG⟩ <;> try simp (disch := first | omega | decide) only [go_sem, f0, f1, f5, f6, f7, o5, cellsOf_step]
          all_goals first | rfl | skip
          all_goals (simp only [okStep] at s1 s2 s3)
          all_goals (try simp only [ne_eq, Decidable.not_not] at hbt79)
          all_goals first | assumption | exact mo0 | exact mo1 | omega | (exfalso; simp [chk, mo0] at hbt79; done) | exact (s1 hbt79).1 | exact s2.1.1 | exact (s3 hbt79).1.1 | exact (s1 hbt79).2.1.trans mo1 | exact s2.1.2.1.trans mo1 | exact (s3 hbt79).1.2.1.trans mo1 | (intro _; omega) | (have z := s1 hbt79; intro _; omega) | (intro z; have z3 := mo3 (s2.2 z).1; have z4 := (s2.2 z).2; have z5 : ((⟨of, co, bo, ep, he, fu, ag, go⟩ : Near)).ag = ag := rfl; omega) | (intro z; have z3 := mo3 ((s3 hbt79).2 z).1; have z4 := ((s3 hbt79).2 z).2; have z5 : ((⟨of, co, bo, ep, he, fu, ag, go⟩ : Near)).ag = ag := rfl; omega) | trace_state
        case hf =>
          intro hb
          try simp only [Bool.or_eq_true, Bool.and_eq_true, Bool.or_eq_false_iff, Bool.and_eq_false_iff, decide_eq_true_eq, decide_eq_false_iff_not] at hb
          have hbt79 := hb
          refine AW.skip ?_
          refine AW.seq ?_
          refine AW.region (cfg := cfg) ?_
          iterate 2 (apply aops_step (by decide) rfl; · (intro K hK; simp (disch := first | omega | decide) only [go_sem, f0, f1, f5, f6, f7, o5, cellsOf_step]; exact hK _))
          apply aops_merge' (by decide) (by first | exact want_of (d := 82) rfl (by simp (disch := first | omega | decide) only [go_sem, f0, f1, f5, f6, f7, o5, opn_cond, cellsOf_step]; rfl) | exact want_of_cond (d := 82) rfl (by simp (disch := first | omega | decide) only [go_sem, f0, f1, f5, f6, f7, o5, opn_cond, cellsOf_step]; rfl))
          · intro hc K hK
            have hc2 := hc
            simp only [beq_iff_eq, decide_eq_true_eq, decide_eq_false_iff_not, Bool.or_eq_true, Bool.and_eq_true, Bool.or_eq_false_iff, Bool.and_eq_false_iff] at hc2
            simp (disch := first | omega | decide) only [go_sem, f0, f1, f5, f6, f7, o5, opn_cond, hc, if_true, act_fieldAddr_t fo47_5, cellsOf_step]
            first | rw [mwp_fieldAddr_b (by simp (disch := first | omega | decide) only [go_sem, f0, f1, f5, f6, f7, o5, opn_cond, hc, if_true, cellsOf_step]; rfl)] | skip
            exact hK _
          apply aops_merge' (by decide) (by first | exact want_of (d := 82) rfl (by simp (disch := first | omega | decide) only [go_sem, f0, f1, f5, f6, f7, o5, opn_cond, cellsOf_step]; rfl) | exact want_of_cond (d := 82) rfl (by simp (disch := first | omega | decide) only [go_sem, f0, f1, f5, f6, f7, o5, opn_cond, cellsOf_step]; rfl))
          · intro hc K hK
            have hc2 := hc
            simp only [beq_iff_eq, decide_eq_true_eq, decide_eq_false_iff_not, Bool.or_eq_true, Bool.and_eq_true, Bool.or_eq_false_iff, Bool.and_eq_false_iff] at hc2
            simp (disch := first | omega | decide) only [go_sem, f0, f1, f5, f6, f7, o5, opn_cond, hc, if_true, act_load_t ti4, cellsOf_step]
            first | rw [mwp_load_i1 (by rfl)] | rw [mwp_load_g1 (by first | (rw [hG]; rfl) | rfl) (by rfl)] | rw [mwp_load_gs (by first | (rw [hG]; rfl) | rfl) (by simp)] | rw [mwp_load_bs (by simp (disch := first | omega | decide) only [go_sem, f0, f1, f5, f6, f7, o5, opn_cond, hc, if_true, cellsOf_step]; rfl) (by simp [setAt])] | rw [mwp_load_b1 (by simp (disch := first | omega | decide) only [go_sem, f0, f1, f5, f6, f7, o5, opn_cond, hc, if_true, cellsOf_step]; rfl) (by rfl)] | rw [mwp_aLoad_map (by simp (disch := first | omega | decide) only [go_sem, f0, f1, f5, f6, f7, o5, opn_cond, hc, if_true, cellsOf_step]; rfl) (by first | omega | (simp; omega)) (fun _ => rfl)] | rw [mwp_aLoad_e1 (by simp (disch := first | omega | decide) only [go_sem, f0, f1, f5, f6, f7, o5, opn_cond, hc, if_true, cellsOf_step]; rfl) (by simp) rfl] | skip
            exact hK _
          apply aops_merge' (by decide) (by first | exact want_of (d := 82) rfl (by simp (disch := first | omega | decide) only [go_sem, f0, f1, f5, f6, f7, o5, opn_cond, cellsOf_step]; rfl) | exact want_of_cond (d := 82) rfl (by simp (disch := first | omega | decide) only [go_sem, f0, f1, f5, f6, f7, o5, opn_cond, cellsOf_step]; rfl))
          · intro hc K hK
            have hc2 := hc
            simp only [beq_iff_eq, decide_eq_true_eq, decide_eq_false_iff_not, Bool.or_eq_true, Bool.and_eq_true, Bool.or_eq_false_iff, Bool.and_eq_false_iff] at hc2
            simp (disch := first | omega | decide) only [go_sem, f0, f1, f5, f6, f7, o5, opn_cond, hc, if_true, cellsOf_step]
            exact hK _
          iterate 2 (apply aops_step (by decide) rfl; · (intro K hK; simp (disch := first | omega | decide) only [go_sem, f0, f1, f5, f6, f7, o5, cellsOf_step]; exact hK _))
          apply aops_merge' (by decide) (by first | exact want_of (d := 87) rfl (by simp (disch := first | omega | decide) only [go_sem, f0, f1, f5, f6, f7, o5, opn_cond, cellsOf_step]; rfl) | exact want_of_cond (d := 87) rfl (by simp (disch := first | omega | decide) only [go_sem, f0, f1, f5, f6, f7, o5, opn_cond, cellsOf_step]; rfl))
          · intro hc K hK
            have hc2 := hc
            simp only [beq_iff_eq, decide_eq_true_eq, decide_eq_false_iff_not, Bool.or_eq_true, Bool.and_eq_true, Bool.or_eq_false_iff, Bool.and_eq_false_iff] at hc2
            simp (disch := first | omega | decide) only [go_sem, f0, f1, f5, f6, f7, o5, opn_cond, hc, if_true, cellsOf_step]
            exact hK _
          apply aops_merge' (by decide) (by first | exact want_of (d := 87) rfl (by simp (disch := first | omega | decide) only [go_sem, f0, f1, f5, f6, f7, o5, opn_cond, cellsOf_step]; rfl) | exact want_of_cond (d := 87) rfl (by simp (disch := first | omega | decide) only [go_sem, f0, f1, f5, f6, f7, o5, opn_cond, cellsOf_step]; rfl))
          · intro hc K hK
            have hc2 := hc
            simp only [beq_iff_eq, decide_eq_true_eq, decide_eq_false_iff_not, Bool.or_eq_true, Bool.and_eq_true, Bool.or_eq_false_iff, Bool.and_eq_false_iff] at hc2
            simp (disch := first | omega | decide) only [go_sem, f0, f1, f5, f6, f7, o5, opn_cond, hc, if_true, cellsOf_step]
            exact hK _
          apply aops_merge' (by decide) (by first | exact want_of (d := 89) rfl (by simp (disch := first | omega | decide) only [go_sem, f0, f1, f5, f6, f7, o5, opn_cond, cellsOf_step]; rfl) | exact want_of_cond (d := 89) rfl (by simp (disch := first | omega | decide) only [go_sem, f0, f1, f5, f6, f7, o5, opn_cond, cellsOf_step]; rfl))
          · intro hc K hK
            have hc2 := hc
            simp only [beq_iff_eq, decide_eq_true_eq, decide_eq_false_iff_not, Bool.or_eq_true, Bool.and_eq_true, Bool.or_eq_false_iff, Bool.and_eq_false_iff] at hc2
            simp (disch := first | omega | decide) only [go_sem, f0, f1, f5, f6, f7, o5, opn_cond, hc, if_true, act_fieldAddr_t fo47_5, cellsOf_step]
            first | rw [mwp_fieldAddr_b (by simp (disch := first | omega | decide) only [go_sem, f0, f1, f5, f6, f7, o5, opn_cond, hc, if_true, cellsOf_step]; rfl)] | skip
            exact hK _
          apply aops_merge' (by decide) (by first | exact want_of (d := 89) rfl (by simp (disch := first | omega | decide) only [go_sem, f0, f1, f5, f6, f7, o5, opn_cond, cellsOf_step]; rfl) | exact want_of_cond (d := 89) rfl (by simp (disch := first | omega | decide) only [go_sem, f0, f1, f5, f6, f7, o5, opn_cond, cellsOf_step]; rfl))
          · intro hc K hK
            have hc2 := hc
            simp only [beq_iff_eq, decide_eq_true_eq, decide_eq_false_iff_not, Bool.or_eq_true, Bool.and_eq_true, Bool.or_eq_false_iff, Bool.and_eq_false_iff] at hc2
            simp (disch := first | omega | decide) only [go_sem, f0, f1, f5, f6, f7, o5, opn_cond, hc, if_true, act_load_t ti4, cellsOf_step]
            first | rw [mwp_load_i1 (by rfl)] | rw [mwp_load_g1 (by first | (rw [hG]; rfl) | rfl) (by rfl)] | rw [mwp_load_gs (by first | (rw [hG]; rfl) | rfl) (by simp)] | rw [mwp_load_bs (by simp (disch := first | omega | decide) only [go_sem, f0, f1, f5, f6, f7, o5, opn_cond, hc, if_true, cellsOf_step]; rfl) (by simp [setAt])] | rw [mwp_load_b1 (by simp (disch := first | omega | decide) only [go_sem, f0, f1, f5, f6, f7, o5, opn_cond, hc, if_true, cellsOf_step]; rfl) (by rfl)] | rw [mwp_aLoad_map (by simp (disch := first | omega | decide) only [go_sem, f0, f1, f5, f6, f7, o5, opn_cond, hc, if_true, cellsOf_step]; rfl) (by first | omega | (simp; omega)) (fun _ => rfl)] | rw [mwp_aLoad_e1 (by simp (disch := first | omega | decide) only [go_sem, f0, f1, f5, f6, f7, o5, opn_cond, hc, if_true, cellsOf_step]; rfl) (by simp) rfl] | skip
            exact hK _
          apply aops_merge' (by decide) (by first | exact want_of (d := 89) rfl (by simp (disch := first | omega | decide) only [go_sem, f0, f1, f5, f6, f7, o5, opn_cond, cellsOf_step]; rfl) | exact want_of_cond (d := 89) rfl (by simp (disch := first | omega | decide) only [go_sem, f0, f1, f5, f6, f7, o5, opn_cond, cellsOf_step]; rfl))
          · intro hc K hK
            have hc2 := hc
            simp only [beq_iff_eq, decide_eq_true_eq, decide_eq_false_iff_not, Bool.or_eq_true, Bool.and_eq_true, Bool.or_eq_false_iff, Bool.and_eq_false_iff] at hc2
            simp (disch := first | omega | decide) only [go_sem, f0, f1, f5, f6, f7, o5, opn_cond, hc, if_true, cellsOf_step]
            exact hK _
          apply aops_merge' (by decide) (by first | exact want_of (d := 87) rfl (by simp (disch := first | omega | decide) only [go_sem, f0, f1, f5, f6, f7, o5, opn_cond, cellsOf_step]; rfl) | exact want_of_cond (d := 87) rfl (by simp (disch := first | omega | decide) only [go_sem, f0, f1, f5, f6, f7, o5, opn_cond, cellsOf_step]; rfl))
          · intro hc K hK
            have hc2 := hc
            simp only [beq_iff_eq, decide_eq_true_eq, decide_eq_false_iff_not, Bool.or_eq_true, Bool.and_eq_true, Bool.or_eq_false_iff, Bool.and_eq_false_iff] at hc2
            simp (disch := first | omega | decide) only [go_sem, f0, f1, f5, f6, f7, o5, opn_cond, hc, if_true, cellsOf_step]
            exact hK _
          iterate 2 (apply aops_step (by decide) rfl; · (intro K hK; simp (disch := first | omega | decide) only [go_sem, f0, f1, f5, f6, f7, o5, cellsOf_step]; exact hK _))
          apply aops_merge' (by decide) (by first | exact want_of (d := 95) rfl (by simp (disch := first | omega | decide) only [go_sem, f0, f1, f5, f6, f7, o5, opn_cond, cellsOf_step]; rfl) | exact want_of_cond (d := 95) rfl (by simp (disch := first | omega | decide) only [go_sem, f0, f1, f5, f6, f7, o5, opn_cond, cellsOf_step]; rfl))
          · intro hc K hK
            have hc2 := hc
            simp only [beq_iff_eq, decide_eq_true_eq, decide_eq_false_iff_not, Bool.or_eq_true, Bool.and_eq_true, Bool.or_eq_false_iff, Bool.and_eq_false_iff] at hc2
            simp (disch := first | omega | decide) only [go_sem, f0, f1, f5, f6, f7, o5, opn_cond, hc, if_true, act_fieldAddr_t fo47_5, cellsOf_step]
            first | rw [mwp_fieldAddr_b (by simp (disch := first | omega | decide) only [go_sem, f0, f1, f5, f6, f7, o5, opn_cond, hc, if_true, cellsOf_step]; rfl)] | skip
            exact hK _
          apply aops_merge' (by decide) (by first | exact want_of (d := 95) rfl (by simp (disch := first | omega | decide) only [go_sem, f0, f1, f5, f6, f7, o5, opn_cond, cellsOf_step]; rfl) | exact want_of_cond (d := 95) rfl (by simp (disch := first | omega | decide) only [go_sem, f0, f1, f5, f6, f7, o5, opn_cond, cellsOf_step]; rfl))
          · intro hc K hK
            have hc2 := hc
            simp only [beq_iff_eq, decide_eq_true_eq, decide_eq_false_iff_not, Bool.or_eq_true, Bool.and_eq_true, Bool.or_eq_false_iff, Bool.and_eq_false_iff] at hc2
            simp (disch := first | omega | decide) only [go_sem, f0, f1, f5, f6, f7, o5, opn_cond, hc, if_true, act_load_t ti4, cellsOf_step]
            first | rw [mwp_load_i1 (by rfl)] | rw [mwp_load_g1 (by first | (rw [hG]; rfl) | rfl) (by rfl)] | rw [mwp_load_gs (by first | (rw [hG]; rfl) | rfl) (by simp)] | rw [mwp_load_bs (by simp (disch := first | omega | decide) only [go_sem, f0, f1, f5, f6, f7, o5, opn_cond, hc, if_true, cellsOf_step]; rfl) (by simp [setAt])] | rw [mwp_load_b1 (by simp (disch := first | omega | decide) only [go_sem, f0, f1, f5, f6, f7, o5, opn_cond, hc, if_true, cellsOf_step]; rfl) (by rfl)] | rw [mwp_aLoad_map (by simp (disch := first | omega | decide) only [go_sem, f0, f1, f5, f6, f7, o5, opn_cond, hc, if_true, cellsOf_step]; rfl) (by first | omega | (simp; omega)) (fun _ => rfl)] | rw [mwp_aLoad_e1 (by simp (disch := first | omega | decide) only [go_sem, f0, f1, f5, f6, f7, o5, opn_cond, hc, if_true, cellsOf_step]; rfl) (by simp) rfl] | skip
            exact hK _
          apply aops_merge' (by decide) (by first | exact want_of (d := 95) rfl (by simp (disch := first | omega | decide) only [go_sem, f0, f1, f5, f6, f7, o5, opn_cond, cellsOf_step]; rfl) | exact want_of_cond (d := 95) rfl (by simp (disch := first | omega | decide) only [go_sem, f0, f1, f5, f6, f7, o5, opn_cond, cellsOf_step]; rfl))
          · intro hc K hK
            have hc2 := hc
            simp only [beq_iff_eq, decide_eq_true_eq, decide_eq_false_iff_not, Bool.or_eq_true, Bool.and_eq_true, Bool.or_eq_false_iff, Bool.and_eq_false_iff] at hc2
            simp (disch := first | omega | decide) only [go_sem, f0, f1, f5, f6, f7, o5, opn_cond, hc, if_true, act_fieldAddr_t fo47_5, cellsOf_step]
            first | rw [mwp_fieldAddr_b (by simp (disch := first | omega | decide) only [go_sem, f0, f1, f5, f6, f7, o5, opn_cond, hc, if_true, cellsOf_step]; rfl)] | skip
            exact hK _
          apply aops_merge' (by decide) (by first | exact want_of (d := 95) rfl (by simp (disch := first | omega | decide) only [go_sem, f0, f1, f5, f6, f7, o5, opn_cond, cellsOf_step]; rfl) | exact want_of_cond (d := 95) rfl (by simp (disch := first | omega | decide) only [go_sem, f0, f1, f5, f6, f7, o5, opn_cond, cellsOf_step]; rfl))
          · intro hc K hK
            have hc2 := hc
            simp only [beq_iff_eq, decide_eq_true_eq, decide_eq_false_iff_not, Bool.or_eq_true, Bool.and_eq_true, Bool.or_eq_false_iff, Bool.and_eq_false_iff] at hc2
            simp (disch := first | omega | decide) only [go_sem, f0, f1, f5, f6, f7, o5, opn_cond, hc, if_true, act_load_t ti4, cellsOf_step]
            first | rw [mwp_load_i1 (by rfl)] | rw [mwp_load_g1 (by first | (rw [hG]; rfl) | rfl) (by rfl)] | rw [mwp_load_gs (by first | (rw [hG]; rfl) | rfl) (by simp)] | rw [mwp_load_bs (by simp (disch := first | omega | decide) only [go_sem, f0, f1, f5, f6, f7, o5, opn_cond, hc, if_true, cellsOf_step]; rfl) (by simp [setAt])] | rw [mwp_load_b1 (by simp (disch := first | omega | decide) only [go_sem, f0, f1, f5, f6, f7, o5, opn_cond, hc, if_true, cellsOf_step]; rfl) (by rfl)] | rw [mwp_aLoad_map (by simp (disch := first | omega | decide) only [go_sem, f0, f1, f5, f6, f7, o5, opn_cond, hc, if_true, cellsOf_step]; rfl) (by first | omega | (simp; omega)) (fun _ => rfl)] | rw [mwp_aLoad_e1 (by simp (disch := first | omega | decide) only [go_sem, f0, f1, f5, f6, f7, o5, opn_cond, hc, if_true, cellsOf_step]; rfl) (by simp) rfl] | skip
            exact hK _
          apply aops_merge' (by decide) (by first | exact want_of (d := 95) rfl (by simp (disch := first | omega | decide) only [go_sem, f0, f1, f5, f6, f7, o5, opn_cond, cellsOf_step]; rfl) | exact want_of_cond (d := 95) rfl (by simp (disch := first | omega | decide) only [go_sem, f0, f1, f5, f6, f7, o5, opn_cond, cellsOf_step]; rfl))
          · intro hc K hK
            have hc2 := hc
            simp only [beq_iff_eq, decide_eq_true_eq, decide_eq_false_iff_not, Bool.or_eq_true, Bool.and_eq_true, Bool.or_eq_false_iff, Bool.and_eq_false_iff] at hc2
            simp (disch := first | omega | decide) only [go_sem, f0, f1, f5, f6, f7, o5, opn_cond, hc, if_true, cellsOf_step]
            exact hK _
          apply aops_merge' (by decide) (by first | exact want_of (d := 100) rfl (by simp (disch := first | omega | decide) only [go_sem, f0, f1, f5, f6, f7, o5, opn_cond, cellsOf_step]; rfl) | exact want_of_cond (d := 100) rfl (by simp (disch := first | omega | decide) only [go_sem, f0, f1, f5, f6, f7, o5, opn_cond, cellsOf_step]; rfl))
          · intro hc K hK
            have hc2 := hc
            simp only [beq_iff_eq, decide_eq_true_eq, decide_eq_false_iff_not, Bool.or_eq_true, Bool.and_eq_true, Bool.or_eq_false_iff, Bool.and_eq_false_iff] at hc2
            simp (disch := first | omega | decide) only [go_sem, f0, f1, f5, f6, f7, o5, opn_cond, hc, if_true, cellsOf_step]
            exact hK _
          apply aops_merge' (by decide) (by first | exact want_of (d := 100) rfl (by simp (disch := first | omega | decide) only [go_sem, f0, f1, f5, f6, f7, o5, opn_cond, cellsOf_step]; rfl) | exact want_of_cond (d := 100) rfl (by simp (disch := first | omega | decide) only [go_sem, f0, f1, f5, f6, f7, o5, opn_cond, cellsOf_step]; rfl))
          · intro hc K hK
            have hc2 := hc
            simp only [beq_iff_eq, decide_eq_true_eq, decide_eq_false_iff_not, Bool.or_eq_true, Bool.and_eq_true, Bool.or_eq_false_iff, Bool.and_eq_false_iff] at hc2
            simp (disch := first | omega | decide) only [go_sem, f0, f1, f5, f6, f7, o5, opn_cond, hc, if_true, cellsOf_step]
            exact hK _
          apply aops_merge' (by decide) (by first | exact want_of (d := 95) rfl (by simp (disch := first | omega | decide) only [go_sem, f0, f1, f5, f6, f7, o5, opn_cond, cellsOf_step]; rfl) | exact want_of_cond (d := 95) rfl (by simp (disch := first | omega | decide) only [go_sem, f0, f1, f5, f6, f7, o5, opn_cond, cellsOf_step]; rfl))
          · intro hc K hK
            have hc2 := hc
            simp only [beq_iff_eq, decide_eq_true_eq, decide_eq_false_iff_not, Bool.or_eq_true, Bool.and_eq_true, Bool.or_eq_false_iff, Bool.and_eq_false_iff] at hc2
            simp (disch := first | omega | decide) only [go_sem, f0, f1, f5, f6, f7, o5, opn_cond, hc, if_true, cellsOf_step]
            exact hK _
          apply aops_merge' (by decide) (by first | exact want_of (d := 95) rfl (by simp (disch := first | omega | decide) only [go_sem, f0, f1, f5, f6, f7, o5, opn_cond, cellsOf_step]; rfl) | exact want_of_cond (d := 95) rfl (by simp (disch := first | omega | decide) only [go_sem, f0, f1, f5, f6, f7, o5, opn_cond, cellsOf_step]; rfl))
          · intro hc K hK
            have hc2 := hc
            simp only [beq_iff_eq, decide_eq_true_eq, decide_eq_false_iff_not, Bool.or_eq_true, Bool.and_eq_true, Bool.or_eq_false_iff, Bool.and_eq_false_iff] at hc2
            simp (disch := first | omega | decide) only [go_sem, f0, f1, f5, f6, f7, o5, opn_cond, hc, if_true, cellsOf_step]
            exact hK _
          apply aops_merge' (by decide) (by first | exact want_of (d := 104) rfl (by simp (disch := first | omega | decide) only [go_sem, f0, f1, f5, f6, f7, o5, opn_cond, cellsOf_step]; rfl) | exact want_of_cond (d := 104) rfl (by simp (disch := first | omega | decide) only [go_sem, f0, f1, f5, f6, f7, o5, opn_cond, cellsOf_step]; rfl))
          · intro hc K hK
            have hc2 := hc
            simp only [beq_iff_eq, decide_eq_true_eq, decide_eq_false_iff_not, Bool.or_eq_true, Bool.and_eq_true, Bool.or_eq_false_iff, Bool.and_eq_false_iff] at hc2
            simp (disch := first | omega | decide) only [go_sem, f0, f1, f5, f6, f7, o5, opn_cond, hc, if_true, cellsOf_step]
            exact hK _
          apply aops_merge' (by decide) (by first | exact want_of (d := 95) rfl (by simp (disch := first | omega | decide) only [go_sem, f0, f1, f5, f6, f7, o5, opn_cond, cellsOf_step]; rfl) | exact want_of_cond (d := 95) rfl (by simp (disch := first | omega | decide) only [go_sem, f0, f1, f5, f6, f7, o5, opn_cond, cellsOf_step]; rfl))
          · intro hc K hK
            have hc2 := hc
            simp only [beq_iff_eq, decide_eq_true_eq, decide_eq_false_iff_not, Bool.or_eq_true, Bool.and_eq_true, Bool.or_eq_false_iff, Bool.and_eq_false_iff] at hc2
            simp (disch := first | omega | decide) only [go_sem, f0, f1, f5, f6, f7, o5, opn_cond, hc, if_true, cellsOf_step]
            exact hK _
          apply aops_merge' (by decide) (by first | exact want_of (d := 95) rfl (by simp (disch := first | omega | decide) only [go_sem, f0, f1, f5, f6, f7, o5, opn_cond, cellsOf_step]; rfl) | exact want_of_cond (d := 95) rfl (by simp (disch := first | omega | decide) only [go_sem, f0, f1, f5, f6, f7, o5, opn_cond, cellsOf_step]; rfl))
          · intro hc K hK
            have hc2 := hc
            simp only [beq_iff_eq, decide_eq_true_eq, decide_eq_false_iff_not, Bool.or_eq_true, Bool.and_eq_true, Bool.or_eq_false_iff, Bool.and_eq_false_iff] at hc2
            simp (disch := first | omega | decide) only [go_sem, f0, f1, f5, f6, f7, o5, opn_cond, hc, if_true, bin_neq_b u4, cellsOf_step]
            exact hK _
          iterate 2 (apply aops_step (by decide) rfl; · (intro K hK; simp (disch := first | omega | decide) only [go_sem, f0, f1, f5, f6, f7, o5, cellsOf_step]; exact hK _))
          apply aops_merge' (by decide) (by first | exact want_of (d := 109) rfl (by simp (disch := first | omega | decide) only [go_sem, f0, f1, f5, f6, f7, o5, opn_cond, cellsOf_step]; rfl) | exact want_of_cond (d := 109) rfl (by simp (disch := first | omega | decide) only [go_sem, f0, f1, f5, f6, f7, o5, opn_cond, cellsOf_step]; rfl))
          · intro hc K hK
            have hc2 := hc
            simp only [beq_iff_eq, decide_eq_true_eq, decide_eq_false_iff_not, Bool.or_eq_true, Bool.and_eq_true, Bool.or_eq_false_iff, Bool.and_eq_false_iff] at hc2
            simp (disch := first | omega | decide) only [go_sem, f0, f1, f5, f6, f7, o5, opn_cond, hc, if_true, act_fieldAddr_t fo47_2, cellsOf_step]
            first | rw [mwp_fieldAddr_b (by simp (disch := first | omega | decide) only [go_sem, f0, f1, f5, f6, f7, o5, opn_cond, hc, if_true, cellsOf_step]; rfl)] | skip
            exact hK _
          apply aops_merge' (by decide) (by first | exact want_of (d := 109) rfl (by simp (disch := first | omega | decide) only [go_sem, f0, f1, f5, f6, f7, o5, opn_cond, cellsOf_step]; rfl) | exact want_of_cond (d := 109) rfl (by simp (disch := first | omega | decide) only [go_sem, f0, f1, f5, f6, f7, o5, opn_cond, cellsOf_step]; rfl))
          · intro hc K hK
            have hc2 := hc
            simp only [beq_iff_eq, decide_eq_true_eq, decide_eq_false_iff_not, Bool.or_eq_true, Bool.and_eq_true, Bool.or_eq_false_iff, Bool.and_eq_false_iff] at hc2
            simp (disch := first | omega | decide) only [go_sem, f0, f1, f5, f6, f7, o5, opn_cond, hc, if_true, act_load_t ti3, cellsOf_step]
            first | rw [mwp_load_i1 (by rfl)] | rw [mwp_load_g1 (by first | (rw [hG]; rfl) | rfl) (by rfl)] | rw [mwp_load_gs (by first | (rw [hG]; rfl) | rfl) (by simp)] | rw [mwp_load_bs (by simp (disch := first | omega | decide) only [go_sem, f0, f1, f5, f6, f7, o5, opn_cond, hc, if_true, cellsOf_step]; rfl) (by simp [setAt])] | rw [mwp_load_b1 (by simp (disch := first | omega | decide) only [go_sem, f0, f1, f5, f6, f7, o5, opn_cond, hc, if_true, cellsOf_step]; rfl) (by rfl)] | rw [mwp_aLoad_map (by simp (disch := first | omega | decide) only [go_sem, f0, f1, f5, f6, f7, o5, opn_cond, hc, if_true, cellsOf_step]; rfl) (by first | omega | (simp; omega)) (fun _ => rfl)] | rw [mwp_aLoad_e1 (by simp (disch := first | omega | decide) only [go_sem, f0, f1, f5, f6, f7, o5, opn_cond, hc, if_true, cellsOf_step]; rfl) (by simp) rfl] | skip
            exact hK _
          apply aops_merge' (by decide) (by first | exact want_of (d := 109) rfl (by simp (disch := first | omega | decide) only [go_sem, f0, f1, f5, f6, f7, o5, opn_cond, cellsOf_step]; rfl) | exact want_of_cond (d := 109) rfl (by simp (disch := first | omega | decide) only [go_sem, f0, f1, f5, f6, f7, o5, opn_cond, cellsOf_step]; rfl))
          · intro hc K hK
            have hc2 := hc
            simp only [beq_iff_eq, decide_eq_true_eq, decide_eq_false_iff_not, Bool.or_eq_true, Bool.and_eq_true, Bool.or_eq_false_iff, Bool.and_eq_false_iff] at hc2
            simp (disch := first | omega | decide) only [go_sem, f0, f1, f5, f6, f7, o5, opn_cond, hc, if_true, act_fieldAddr_t fo47_2, cellsOf_step]
            first | rw [mwp_fieldAddr_b (by simp (disch := first | omega | decide) only [go_sem, f0, f1, f5, f6, f7, o5, opn_cond, hc, if_true, cellsOf_step]; rfl)] | skip
            exact hK _
          apply aops_merge' (by decide) (by first | exact want_of (d := 109) rfl (by simp (disch := first | omega | decide) only [go_sem, f0, f1, f5, f6, f7, o5, opn_cond, cellsOf_step]; rfl) | exact want_of_cond (d := 109) rfl (by simp (disch := first | omega | decide) only [go_sem, f0, f1, f5, f6, f7, o5, opn_cond, cellsOf_step]; rfl))
          · intro hc K hK
            have hc2 := hc
            simp only [beq_iff_eq, decide_eq_true_eq, decide_eq_false_iff_not, Bool.or_eq_true, Bool.and_eq_true, Bool.or_eq_false_iff, Bool.and_eq_false_iff] at hc2
            simp (disch := first | omega | decide) only [go_sem, f0, f1, f5, f6, f7, o5, opn_cond, hc, if_true, act_load_t ti3, cellsOf_step]
            first | rw [mwp_load_i1 (by rfl)] | rw [mwp_load_g1 (by first | (rw [hG]; rfl) | rfl) (by rfl)] | rw [mwp_load_gs (by first | (rw [hG]; rfl) | rfl) (by simp)] | rw [mwp_load_bs (by simp (disch := first | omega | decide) only [go_sem, f0, f1, f5, f6, f7, o5, opn_cond, hc, if_true, cellsOf_step]; rfl) (by simp [setAt])] | rw [mwp_load_b1 (by simp (disch := first | omega | decide) only [go_sem, f0, f1, f5, f6, f7, o5, opn_cond, hc, if_true, cellsOf_step]; rfl) (by rfl)] | rw [mwp_aLoad_map (by simp (disch := first | omega | decide) only [go_sem, f0, f1, f5, f6, f7, o5, opn_cond, hc, if_true, cellsOf_step]; rfl) (by first | omega | (simp; omega)) (fun _ => rfl)] | rw [mwp_aLoad_e1 (by simp (disch := first | omega | decide) only [go_sem, f0, f1, f5, f6, f7, o5, opn_cond, hc, if_true, cellsOf_step]; rfl) (by simp) rfl] | skip
            exact hK _
          apply aops_merge' (by decide) (by first | exact want_of (d := 109) rfl (by simp (disch := first | omega | decide) only [go_sem, f0, f1, f5, f6, f7, o5, opn_cond, cellsOf_step]; rfl) | exact want_of_cond (d := 109) rfl (by simp (disch := first | omega | decide) only [go_sem, f0, f1, f5, f6, f7, o5, opn_cond, cellsOf_step]; rfl))
          · intro hc K hK
            have hc2 := hc
            simp only [beq_iff_eq, decide_eq_true_eq, decide_eq_false_iff_not, Bool.or_eq_true, Bool.and_eq_true, Bool.or_eq_false_iff, Bool.and_eq_false_iff] at hc2
            simp (disch := first | omega | decide) only [go_sem, f0, f1, f5, f6, f7, o5, opn_cond, hc, if_true, cellsOf_step]
            exact hK _
          iterate 2 (apply aops_step (by decide) rfl; · (intro K hK; simp (disch := first | omega | decide) only [go_sem, f0, f1, f5, f6, f7, o5, cellsOf_step]; exact hK _))
          apply aops_merge' (by decide) (by first | exact want_of (d := 116) rfl (by simp (disch := first | omega | decide) only [go_sem, f0, f1, f5, f6, f7, o5, opn_cond, cellsOf_step]; rfl) | exact want_of_cond (d := 116) rfl (by simp (disch := first | omega | decide) only [go_sem, f0, f1, f5, f6, f7, o5, opn_cond, cellsOf_step]; rfl))
          · intro hc K hK
            have hc2 := hc
            simp only [beq_iff_eq, decide_eq_true_eq, decide_eq_false_iff_not, Bool.or_eq_true, Bool.and_eq_true, Bool.or_eq_false_iff, Bool.and_eq_false_iff] at hc2
            simp (disch := first | omega | decide) only [go_sem, f0, f1, f5, f6, f7, o5, opn_cond, hc, if_true, cellsOf_step]
            exact hK _
          apply aops_merge' (by decide) (by first | exact want_of (d := 116) rfl (by simp (disch := first | omega | decide) only [go_sem, f0, f1, f5, f6, f7, o5, opn_cond, cellsOf_step]; rfl) | exact want_of_cond (d := 116) rfl (by simp (disch := first | omega | decide) only [go_sem, f0, f1, f5, f6, f7, o5, opn_cond, cellsOf_step]; rfl))
          · intro hc K hK
            have hc2 := hc
            simp only [beq_iff_eq, decide_eq_true_eq, decide_eq_false_iff_not, Bool.or_eq_true, Bool.and_eq_true, Bool.or_eq_false_iff, Bool.and_eq_false_iff] at hc2
            simp (disch := first | omega | decide) only [go_sem, f0, f1, f5, f6, f7, o5, opn_cond, hc, if_true, cellsOf_step]
            exact hK _
          apply aops_merge' (by decide) (by first | exact want_of (d := 116) rfl (by simp (disch := first | omega | decide) only [go_sem, f0, f1, f5, f6, f7, o5, opn_cond, cellsOf_step]; rfl) | exact want_of_cond (d := 116) rfl (by simp (disch := first | omega | decide) only [go_sem, f0, f1, f5, f6, f7, o5, opn_cond, cellsOf_step]; rfl))
          · intro hc K hK
            have hc2 := hc
            simp only [beq_iff_eq, decide_eq_true_eq, decide_eq_false_iff_not, Bool.or_eq_true, Bool.and_eq_true, Bool.or_eq_false_iff, Bool.and_eq_false_iff] at hc2
            simp (disch := first | omega | decide) only [go_sem, f0, f1, f5, f6, f7, o5, opn_cond, hc, if_true, cellsOf_step]
            exact hK _
          apply aops_merge' (by decide) (by first | exact want_of (d := 119) rfl (by simp (disch := first | omega | decide) only [go_sem, f0, f1, f5, f6, f7, o5, opn_cond, cellsOf_step]; rfl) | exact want_of_cond (d := 119) rfl (by simp (disch := first | omega | decide) only [go_sem, f0, f1, f5, f6, f7, o5, opn_cond, cellsOf_step]; rfl))
          · intro hc K hK
            have hc2 := hc
            simp only [beq_iff_eq, decide_eq_true_eq, decide_eq_false_iff_not, Bool.or_eq_true, Bool.and_eq_true, Bool.or_eq_false_iff, Bool.and_eq_false_iff] at hc2
            simp (disch := first | omega | decide) only [go_sem, f0, f1, f5, f6, f7, o5, opn_cond, hc, if_true, act_fieldAddr_t fo47_5, cellsOf_step]
            first | rw [mwp_fieldAddr_b (by simp (disch := first | omega | decide) only [go_sem, f0, f1, f5, f6, f7, o5, opn_cond, hc, if_true, cellsOf_step]; rfl)] | skip
            exact hK _
          apply aops_merge' (by decide) (by first | exact want_of (d := 119) rfl (by simp (disch := first | omega | decide) only [go_sem, f0, f1, f5, f6, f7, o5, opn_cond, cellsOf_step]; rfl) | exact want_of_cond (d := 119) rfl (by simp (disch := first | omega | decide) only [go_sem, f0, f1, f5, f6, f7, o5, opn_cond, cellsOf_step]; rfl))
          · intro hc K hK
            have hc2 := hc
            simp only [beq_iff_eq, decide_eq_true_eq, decide_eq_false_iff_not, Bool.or_eq_true, Bool.and_eq_true, Bool.or_eq_false_iff, Bool.and_eq_false_iff] at hc2
            simp (disch := first | omega | decide) only [go_sem, f0, f1, f5, f6, f7, o5, opn_cond, hc, if_true, act_load_t ti4, cellsOf_step]
            first | rw [mwp_load_i1 (by rfl)] | rw [mwp_load_g1 (by first | (rw [hG]; rfl) | rfl) (by rfl)] | rw [mwp_load_gs (by first | (rw [hG]; rfl) | rfl) (by simp)] | rw [mwp_load_bs (by simp (disch := first | omega | decide) only [go_sem, f0, f1, f5, f6, f7, o5, opn_cond, hc, if_true, cellsOf_step]; rfl) (by simp [setAt])] | rw [mwp_load_b1 (by simp (disch := first | omega | decide) only [go_sem, f0, f1, f5, f6, f7, o5, opn_cond, hc, if_true, cellsOf_step]; rfl) (by rfl)] | rw [mwp_aLoad_map (by simp (disch := first | omega | decide) only [go_sem, f0, f1, f5, f6, f7, o5, opn_cond, hc, if_true, cellsOf_step]; rfl) (by first | omega | (simp; omega)) (fun _ => rfl)] | rw [mwp_aLoad_e1 (by simp (disch := first | omega | decide) only [go_sem, f0, f1, f5, f6, f7, o5, opn_cond, hc, if_true, cellsOf_step]; rfl) (by simp) rfl] | skip
            exact hK _
          apply aops_merge' (by decide) (by first | exact want_of (d := 116) rfl (by simp (disch := first | omega | decide) only [go_sem, f0, f1, f5, f6, f7, o5, opn_cond, cellsOf_step]; rfl) | exact want_of_cond (d := 116) rfl (by simp (disch := first | omega | decide) only [go_sem, f0, f1, f5, f6, f7, o5, opn_cond, cellsOf_step]; rfl))
          · intro hc K hK
            have hc2 := hc
            simp only [beq_iff_eq, decide_eq_true_eq, decide_eq_false_iff_not, Bool.or_eq_true, Bool.and_eq_true, Bool.or_eq_false_iff, Bool.and_eq_false_iff] at hc2
            simp (disch := first | omega | decide) only [go_sem, f0, f1, f5, f6, f7, o5, opn_cond, hc, if_true, cellsOf_step]
            exact hK _
          iterate 2 (apply aops_step (by decide) rfl; · (intro K hK; simp (disch := first | omega | decide) only [go_sem, f0, f1, f5, f6, f7, o5, cellsOf_step]; exact hK _))
          apply aops_merge' (by decide) (by first | exact want_of (d := 124) rfl (by simp (disch := first | omega | decide) only [go_sem, f0, f1, f5, f6, f7, o5, opn_cond, cellsOf_step]; rfl) | exact want_of_cond (d := 124) rfl (by simp (disch := first | omega | decide) only [go_sem, f0, f1, f5, f6, f7, o5, opn_cond, cellsOf_step]; rfl))
          · intro hc K hK
            have hc2 := hc
            simp only [beq_iff_eq, decide_eq_true_eq, decide_eq_false_iff_not, Bool.or_eq_true, Bool.and_eq_true, Bool.or_eq_false_iff, Bool.and_eq_false_iff] at hc2
            simp (disch := first | omega | decide) only [go_sem, f0, f1, f5, f6, f7, o5, opn_cond, hc, if_true, act_fieldAddr_t fo47_0, cellsOf_step]
            first | rw [mwp_fieldAddr_b (by simp (disch := first | omega | decide) only [go_sem, f0, f1, f5, f6, f7, o5, opn_cond, hc, if_true, cellsOf_step]; rfl)] | skip
            exact hK _
          apply aops_merge' (by decide) (by first | exact want_of (d := 124) rfl (by simp (disch := first | omega | decide) only [go_sem, f0, f1, f5, f6, f7, o5, opn_cond, cellsOf_step]; rfl) | exact want_of_cond (d := 124) rfl (by simp (disch := first | omega | decide) only [go_sem, f0, f1, f5, f6, f7, o5, opn_cond, cellsOf_step]; rfl))
          · intro hc K hK
            have hc2 := hc
            simp only [beq_iff_eq, decide_eq_true_eq, decide_eq_false_iff_not, Bool.or_eq_true, Bool.and_eq_true, Bool.or_eq_false_iff, Bool.and_eq_false_iff] at hc2
            simp (disch := first | omega | decide) only [go_sem, f0, f1, f5, f6, f7, o5, opn_cond, hc, if_true, act_load_t ti3, cellsOf_step]
            first | rw [mwp_load_i1 (by rfl)] | rw [mwp_load_g1 (by first | (rw [hG]; rfl) | rfl) (by rfl)] | rw [mwp_load_gs (by first | (rw [hG]; rfl) | rfl) (by simp)] | rw [mwp_load_bs (by simp (disch := first | omega | decide) only [go_sem, f0, f1, f5, f6, f7, o5, opn_cond, hc, if_true, cellsOf_step]; rfl) (by simp [setAt])] | rw [mwp_load_b1 (by simp (disch := first | omega | decide) only [go_sem, f0, f1, f5, f6, f7, o5, opn_cond, hc, if_true, cellsOf_step]; rfl) (by rfl)] | rw [mwp_aLoad_map (by simp (disch := first | omega | decide) only [go_sem, f0, f1, f5, f6, f7, o5, opn_cond, hc, if_true, cellsOf_step]; rfl) (by first | omega | (simp; omega)) (fun _ => rfl)] | rw [mwp_aLoad_e1 (by simp (disch := first | omega | decide) only [go_sem, f0, f1, f5, f6, f7, o5, opn_cond, hc, if_true, cellsOf_step]; rfl) (by simp) rfl] | skip
            exact hK _
          apply aops_merge' (by decide) (by first | exact want_of (d := 124) rfl (by simp (disch := first | omega | decide) only [go_sem, f0, f1, f5, f6, f7, o5, opn_cond, cellsOf_step]; rfl) | exact want_of_cond (d := 124) rfl (by simp (disch := first | omega | decide) only [go_sem, f0, f1, f5, f6, f7, o5, opn_cond, cellsOf_step]; rfl))
          · intro hc K hK
            have hc2 := hc
            simp only [beq_iff_eq, decide_eq_true_eq, decide_eq_false_iff_not, Bool.or_eq_true, Bool.and_eq_true, Bool.or_eq_false_iff, Bool.and_eq_false_iff] at hc2
            simp (disch := first | omega | decide) only [go_sem, f0, f1, f5, f6, f7, o5, opn_cond, hc, if_true, cellsOf_step]
            exact hK _
          apply aops_merge' (by decide) (by first | exact want_of (d := 124) rfl (by simp (disch := first | omega | decide) only [go_sem, f0, f1, f5, f6, f7, o5, opn_cond, cellsOf_step]; rfl) | exact want_of_cond (d := 124) rfl (by simp (disch := first | omega | decide) only [go_sem, f0, f1, f5, f6, f7, o5, opn_cond, cellsOf_step]; rfl))
          · intro hc K hK
            have hc2 := hc
            simp only [beq_iff_eq, decide_eq_true_eq, decide_eq_false_iff_not, Bool.or_eq_true, Bool.and_eq_true, Bool.or_eq_false_iff, Bool.and_eq_false_iff] at hc2
            simp (disch := first | omega | decide) only [go_sem, f0, f1, f5, f6, f7, o5, opn_cond, hc, if_true, cellsOf_step]
            exact hK _
          iterate 1 (apply aops_step (by decide) rfl; · (intro K hK; simp (disch := first | omega | decide) only [go_sem, f0, f1, f5, f6, f7, o5, cellsOf_step]; exact hK _))
          refine aops_nil ?_
          apply AW.cond
          · simp (disch := first | omega | decide) only [go_sem, f0, f1, f5, f6, f7, o5, cellsOf_step]; rfl
          case ht =>
            intro hb
            try simp only [Bool.or_eq_true, Bool.and_eq_true, Bool.or_eq_false_iff, Bool.and_eq_false_iff, decide_eq_true_eq, decide_eq_false_iff_not] at hb
            have hbt129 := hb
            refine AW.seq ?_
            refine AW.region (cfg := cfg) ?_
            iterate 1 (apply aops_step (by decide) rfl; · (intro K hK; simp (disch := first | omega | decide) only [go_sem, f0, f1, f5, f6, f7, o5, cellsOf_step]; exact hK _))
            refine aops_nil ?_
            refine AW.ret ?_
            refine ⟨.inr rfl, ?_⟩
            refine leaves_tmp1 4 rfl ?_ (by first | rfl | exact hG)
            simp (disch := first | omega | decide) only [go_sem, f0, f1, f5, f6, f7, o5, cellsOf_step]
            all_goals first | done | (exfalso; simp only [okStep] at s1 s2 s3; simp only [ne_eq, Decidable.not_not] at hbt79; first | (have y := s1 hbt79; clear s1 s2 s3; grind) | (have y := s2; clear s1 s2 s3; grind) | (have y := s3 hbt79; clear s1 s2 s3; grind)) | trace_state
          case hf =>
            intro hb
            try simp only [Bool.or_eq_true, Bool.and_eq_true, Bool.or_eq_false_iff, Bool.and_eq_false_iff, decide_eq_true_eq, decide_eq_false_iff_not] at hb
            have hbt129 := hb
            refine AW.skip ?_
            refine AW.region (cfg := cfg) ?_
            iterate 3 (apply aops_step (by decide) rfl; · (intro K hK; simp (disch := first | omega | decide) only [go_sem, f0, f1, f5, f6, f7, o5, cellsOf_step]; exact hK _))
            refine aops_nil ?_
            refine ⟨_, _, ?_, ?_, ?_, ?_, ?_, ?_, ?_, ?_, ?_, rfl, ?_, ?_, ?_, ?_, ?_, ?_, ?_, ?_, ?_, ?_, hG⟩ <;> try simp (disch := first | omega | decide) only [go_sem, f0, f1, f5, f6, f7, o5, cellsOf_step]
            all_goals first | rfl | skip
            all_goals (simp only [okStep] at s1 s2 s3)
            all_goals (try simp only [ne_eq, Decidable.not_not] at hbt79)
            all_goals first | assumption | exact mo0 | exact mo1 | omega | (exfalso; simp [chk, mo0] at hbt79; done) | exact (s1 hbt79).1 | exact s2.1.1 | exact (s3 hbt79).1.1 | exact (s1 hbt79).2.1.trans mo1 | exact s2.1.2.1.trans mo1 | exact (s3 hbt79).1.2.1.trans mo1 | (intro _; omega) | (have z := s1 hbt79; intro _; omega) | (intro z; have z3 := mo3 (s2.2 z).1; have z4 := (s2.2 z).2; have z5 : ((⟨of, co, bo, ep, he, fu, ag, go⟩ : Near)).ag = ag := rfl; omega) | (intro z; have z3 := mo3 ((s3 hbt79).2 z).1; have z4 := ((s3 hbt79).2 z).2; have z5 : ((⟨of, co, bo, ep, he, fu, ag, go⟩ : Near)).ag = ag := rfl; omega) | trace_state
      case hf =>
        intro hb
        try simp only [Bool.or_eq_true, Bool.and_eq_true, Bool.or_eq_false_iff, Bool.and_eq_false_iff, decide_eq_true_eq, decide_eq_false_iff_not] at hb
        have hbt49 := hb
        refine AW.seq ?_
        refine AW.region (cfg := cfg) ?_
        iterate 2 (apply aops_step (by decide) rfl; · (intro K hK; simp (disch := first | omega | decide) only [go_sem, f0, f1, f5, f6, f7, o5, cellsOf_step]; exact hK _))
        refine aops_nil ?_
        apply AW.cond
        · simp (disch := first | omega | decide) only [go_sem, f0, f1, f5, f6, f7, o5, cellsOf_step]; rfl
        case ht =>
          intro hb
          try simp only [Bool.or_eq_true, Bool.and_eq_true, Bool.or_eq_false_iff, Bool.and_eq_false_iff, decide_eq_true_eq, decide_eq_false_iff_not] at hb
          have hbt68 := hb
          refine AW.seq ?_
          refine AW.region (cfg := cfg) ?_
          apply aops_step (by decide) rfl
          · intro K hK
            simp (disch := first | omega | decide) only [go_sem, f0, f1, f5, f6, f7, o5, act_load_t ti47, List.map, cellsOf_step]
            first | rw [mwp_load_i1 (by rfl)] | rw [mwp_load_g1 (by first | (rw [hG]; rfl) | rfl) (by rfl)] | rw [mwp_load_gs (by first | (rw [hG]; rfl) | rfl) (by simp)] | rw [mwp_load_bs (by simp (disch := first | omega | decide) only [go_sem, f0, f1, f5, f6, f7, o5, cellsOf_step]; rfl) (by simp [setAt])] | rw [mwp_load_b1 (by simp (disch := first | omega | decide) only [go_sem, f0, f1, f5, f6, f7, o5, cellsOf_step]; rfl) (by rfl)] | rw [mwp_aLoad_map (by simp (disch := first | omega | decide) only [go_sem, f0, f1, f5, f6, f7, o5, cellsOf_step]; rfl) (by first | omega | (simp; omega)) (fun _ => rfl)] | rw [mwp_aLoad_e1 (by simp (disch := first | omega | decide) only [go_sem, f0, f1, f5, f6, f7, o5, cellsOf_step]; rfl) (by simp) rfl] | skip
            exact hK _
          apply aops_step (by decide) rfl
          · intro K hK
            simp (disch := first | omega | decide) only [go_sem, f0, f1, f5, f6, f7, o5, act_call, List.map, cellsOf_step]
            apply mwp_call_r rfl rfl rfl
            · intro Q hQ
              simp (disch := first | omega | decide) only [go_sem, f0, f1, f5, f6, f7, o5, peekL, reifyL_nil, reifyL_cons, reify_v, cellsOf_step]
              first | exact hQ | ((first | rw [peek_own (by simp (disch := first | omega | decide) only [go_sem, f0, f1, f5, f6, f7, o5, peekL, cellsOf_step]; rfl)] | rw [mwp_reify_own (by simp (disch := first | omega | decide) only [go_sem, f0, f1, f5, f6, f7, o5, peekL, cellsOf_step]; rfl)]); exact hQ) | ((first | rw [peek_own (by simp (disch := first | omega | decide) only [go_sem, f0, f1, f5, f6, f7, o5, peekL, cellsOf_step]; rfl)] | rw [mwp_reify_own (by simp (disch := first | omega | decide) only [go_sem, f0, f1, f5, f6, f7, o5, peekL, cellsOf_step]; rfl)]); simp (disch := first | omega | decide) only [go_sem, f0, f1, f5, f6, f7, o5, peekL, cellsOf_step]; (first | rw [peek_own (by simp (disch := first | omega | decide) only [go_sem, f0, f1, f5, f6, f7, o5, peekL, cellsOf_step]; rfl)] | rw [mwp_reify_own (by simp (disch := first | omega | decide) only [go_sem, f0, f1, f5, f6, f7, o5, peekL, cellsOf_step]; rfl)]); exact hQ) | ((first | rw [peek_own (by simp (disch := first | omega | decide) only [go_sem, f0, f1, f5, f6, f7, o5, peekL, cellsOf_step]; rfl)] | rw [mwp_reify_own (by simp (disch := first | omega | decide) only [go_sem, f0, f1, f5, f6, f7, o5, peekL, cellsOf_step]; rfl)]); simp (disch := first | omega | decide) only [go_sem, f0, f1, f5, f6, f7, o5, peekL, cellsOf_step]; exact hQ)
            · exact good_Tick (⟨of, co, bo, ep, he, fu, ag, go⟩ : Near)
            · simp [-List.map_take, -List.map_drop, noPtrL, noPtr, noPtrL_bsl, noPtrL_map, sub]
            · simp (disch := first | omega | decide) only [go_sem, f0, f1, f5, f6, f7, o5, cellsOf_step]
              exact hK _
          iterate 4 (apply aops_step (by decide) rfl; · (intro K hK; simp (disch := first | omega | decide) only [go_sem, f0, f1, f5, f6, f7, o5, cellsOf_step]; exact hK _))
          apply aops_step0 rfl
          · intro K hK
            simp (disch := first | omega | decide) only [go_sem, f0, f1, f5, f6, f7, o5, act_store_t ti47, List.map, cellsOf_step]
            first | rw [mwp_store_g1 (by first | (rw [hG]; rfl) | rfl) (by simp) rfl rfl] | rw [mwp_store_c (by simp (disch := first | omega | decide) only [go_sem, f0, f1, f5, f6, f7, o5, cellsOf_step]; rfl) (by rfl) (by rfl) (by rfl) (by simp)] | rw [mwp_aStore_map (by simp (disch := first | omega | decide) only [go_sem, f0, f1, f5, f6, f7, o5, cellsOf_step]; rfl) (by first | omega | (simp; omega)) (fun _ => rfl) rfl rfl (fun _ => rfl)] | skip
            try simp only [setAt, cellsL, cellsOf_agg, cellsOf_base, List.map_cons, List.map_nil, List.set_cons_zero, List.set_cons_succ, Nat.reduceAdd, Nat.zero_add, hG]
            exact hK _
          iterate 2 (apply aops_step (by decide) rfl; · (intro K hK; simp (disch := first | omega | decide) only [go_sem, f0, f1, f5, f6, f7, o5, cellsOf_step]; exact hK _))
          refine aops_nil ?_
          refine AW.region (cfg := cfg) ?_
          iterate 3 (apply aops_step (by decide) rfl; · (intro K hK; simp (disch := first | omega | decide) only [go_sem, f0, f1, f5, f6, f7, o5, cellsOf_step]; exact hK _))
          refine aops_nil ?_
          refine AW.seq ?_
          refine AW.seq ?_
          refine AW.region (cfg := cfg) ?_
          iterate 2 (apply aops_step (by decide) rfl; · (intro K hK; simp (disch := first | omega | decide) only [go_sem, f0, f1, f5, f6, f7, o5, cellsOf_step]; exact hK _))
          refine aops_nil ?_
          apply AW.cond
          · simp (disch := first | omega | decide) only [go_sem, f0, f1, f5, f6, f7, o5, cellsOf_step]; rfl
          case ht =>
            intro hb
            try simp only [Bool.or_eq_true, Bool.and_eq_true, Bool.or_eq_false_iff, Bool.and_eq_false_iff, decide_eq_true_eq, decide_eq_false_iff_not] at hb
            have hbt79 := hb
            refine AW.seq ?_
            refine AW.region (cfg := cfg) ?_
            apply aops_step (by decide) rfl
            · intro K hK
              simp (disch := first | omega | decide) only [go_sem, f0, f1, f5, f6, f7, o5, act_load_t ti47, List.map, cellsOf_step]
              first | rw [mwp_load_i1 (by rfl)] | rw [mwp_load_g1 (by first | (rw [hG]; rfl) | rfl) (by rfl)] | rw [mwp_load_gs (by first | (rw [hG]; rfl) | rfl) (by simp)] | rw [mwp_load_bs (by simp (disch := first | omega | decide) only [go_sem, f0, f1, f5, f6, f7, o5, cellsOf_step]; rfl) (by simp [setAt])] | rw [mwp_load_b1 (by simp (disch := first | omega | decide) only [go_sem, f0, f1, f5, f6, f7, o5, cellsOf_step]; rfl) (by rfl)] | rw [mwp_aLoad_map (by simp (disch := first | omega | decide) only [go_sem, f0, f1, f5, f6, f7, o5, cellsOf_step]; rfl) (by first | omega | (simp; omega)) (fun _ => rfl)] | rw [mwp_aLoad_e1 (by simp (disch := first | omega | decide) only [go_sem, f0, f1, f5, f6, f7, o5, cellsOf_step]; rfl) (by simp) rfl] | skip
              exact hK _
            apply aops_step0 rfl
            · intro K hK
              simp (disch := first | omega | decide) only [go_sem, f0, f1, f5, f6, f7, o5, act_store_t ti47, List.map, cellsOf_step]
              first | rw [mwp_store_g1 (by first | (rw [hG]; rfl) | rfl) (by simp) rfl rfl] | rw [mwp_store_c (by simp (disch := first | omega | decide) only [go_sem, f0, f1, f5, f6, f7, o5, cellsOf_step]; rfl) (by rfl) (by rfl) (by rfl) (by simp)] | rw [mwp_aStore_map (by simp (disch := first | omega | decide) only [go_sem, f0, f1, f5, f6, f7, o5, cellsOf_step]; rfl) (by first | omega | (simp; omega)) (fun _ => rfl) rfl rfl (fun _ => rfl)] | skip
              try simp only [setAt, cellsL, cellsOf_agg, cellsOf_base, List.map_cons, List.map_nil, List.set_cons_zero, List.set_cons_succ, Nat.reduceAdd, Nat.zero_add, hG]
              exact hK _
            refine aops_nil ?_
            refine AW.exit ?_
            refine AW.region (cfg := cfg) ?_
            iterate 3 (apply aops_step (by decide) rfl; · (intro K hK; simp (disch := first | omega | decide) only [go_sem, f0, f1, f5, f6, f7, o5, cellsOf_step]; exact hK _))
            refine aops_nil ?_
            refine ⟨_, _, ?_, ?_, ?_, ?_, ?_, ?_, ?_, ?_, ?_, rfl, ?_, ?_, ?_, ?_, ?_, ?_, ?_, ?_, ?_, ?_, hG⟩ <;> try simp (disch := first | omega | decide) only [go_sem, f0, f1, f5, f6, f7, o5, cellsOf_step]
            all_goals first | rfl | skip
            all_goals (simp only [okStep] at s1 s2 s3)
            all_goals (try simp only [ne_eq, Decidable.not_not] at hbt79)
            all_goals first | assumption | exact mo0 | exact mo1 | omega | (exfalso; simp [chk, mo0] at hbt79; done) | exact (s1 hbt79).1 | exact s2.1.1 | exact (s3 hbt79).1.1 | exact (s1 hbt79).2.1.trans mo1 | exact s2.1.2.1.trans mo1 | exact (s3 hbt79).1.2.1.trans mo1 | (intro _; omega) | (have z := s1 hbt79; intro _; omega) | (intro z; have z3 := mo3 (s2.2 z).1; have z4 := (s2.2 z).2; have z5 : ((⟨of, co, bo, ep, he, fu, ag, go⟩ : Near)).ag = ag := rfl; omega) | (intro z; have z3 := mo3 ((s3 hbt79).2 z).1; have z4 := ((s3 hbt79).2 z).2; have z5 : ((⟨of, co, bo, ep, he, fu, ag, go⟩ : Near)).ag = ag := rfl; omega) | trace_state
          case hf =>
            intro hb
            try simp only [Bool.or_eq_true, Bool.and_eq_true, Bool.or_eq_false_iff, Bool.and_eq_false_iff, decide_eq_true_eq, decide_eq_false_iff_not] at hb
            have hbt79 := hb
            refine AW.skip ?_
            refine AW.seq ?_
            refine AW.region (cfg := cfg) ?_
            iterate 2 (apply aops_step (by decide) rfl; · (intro K hK; simp (disch := first | omega | decide) only [go_sem, f0, f1, f5, f6, f7, o5, cellsOf_step]; exact hK _))
            apply aops_merge' (by decide) (by first | exact want_of (d := 82) rfl (by simp (disch := first | omega | decide) only [go_sem, f0, f1, f5, f6, f7, o5, opn_cond, cellsOf_step]; rfl) | exact want_of_cond (d := 82) rfl (by simp (disch := first | omega | decide) only [go_sem, f0, f1, f5, f6, f7, o5, opn_cond, cellsOf_step]; rfl))
            · intro hc K hK
              have hc2 := hc
              simp only [beq_iff_eq, decide_eq_true_eq, decide_eq_false_iff_not, Bool.or_eq_true, Bool.and_eq_true, Bool.or_eq_false_iff, Bool.and_eq_false_iff] at hc2
              simp (disch := first | omega | decide) only [go_sem, f0, f1, f5, f6, f7, o5, opn_cond, hc, if_true, act_fieldAddr_t fo47_5, cellsOf_step]
              first | rw [mwp_fieldAddr_b (by simp (disch := first | omega | decide) only [go_sem, f0, f1, f5, f6, f7, o5, opn_cond, hc, if_true, cellsOf_step]; rfl)] | skip
              exact hK _
            apply aops_merge' (by decide) (by first | exact want_of (d := 82) rfl (by simp (disch := first | omega | decide) only [go_sem, f0, f1, f5, f6, f7, o5, opn_cond, cellsOf_step]; rfl) | exact want_of_cond (d := 82) rfl (by simp (disch := first | omega | decide) only [go_sem, f0, f1, f5, f6, f7, o5, opn_cond, cellsOf_step]; rfl))
            · intro hc K hK
              have hc2 := hc
              simp only [beq_iff_eq, decide_eq_true_eq, decide_eq_false_iff_not, Bool.or_eq_true, Bool.and_eq_true, Bool.or_eq_false_iff, Bool.and_eq_false_iff] at hc2
              simp (disch := first | omega | decide) only [go_sem, f0, f1, f5, f6, f7, o5, opn_cond, hc, if_true, act_load_t ti4, cellsOf_step]
              first | rw [mwp_load_i1 (by rfl)] | rw [mwp_load_g1 (by first | (rw [hG]; rfl) | rfl) (by rfl)] | rw [mwp_load_gs (by first | (rw [hG]; rfl) | rfl) (by simp)] | rw [mwp_load_bs (by simp (disch := first | omega | decide) only [go_sem, f0, f1, f5, f6, f7, o5, opn_cond, hc, if_true, cellsOf_step]; rfl) (by simp [setAt])] | rw [mwp_load_b1 (by simp (disch := first | omega | decide) only [go_sem, f0, f1, f5, f6, f7, o5, opn_cond, hc, if_true, cellsOf_step]; rfl) (by rfl)] | rw [mwp_aLoad_map (by simp (disch := first | omega | decide) only [go_sem, f0, f1, f5, f6, f7, o5, opn_cond, hc, if_true, cellsOf_step]; rfl) (by first | omega | (simp; omega)) (fun _ => rfl)] | rw [mwp_aLoad_e1 (by simp (disch := first | omega | decide) only [go_sem, f0, f1, f5, f6, f7, o5, opn_cond, hc, if_true, cellsOf_step]; rfl) (by simp) rfl] | skip
              exact hK _
            apply aops_merge' (by decide) (by first | exact want_of (d := 82) rfl (by simp (disch := first | omega | decide) only [go_sem, f0, f1, f5, f6, f7, o5, opn_cond, cellsOf_step]; rfl) | exact want_of_cond (d := 82) rfl (by simp (disch := first | omega | decide) only [go_sem, f0, f1, f5, f6, f7, o5, opn_cond, cellsOf_step]; rfl))
            · intro hc K hK
              have hc2 := hc
              simp only [beq_iff_eq, decide_eq_true_eq, decide_eq_false_iff_not, Bool.or_eq_true, Bool.and_eq_true, Bool.or_eq_false_iff, Bool.and_eq_false_iff] at hc2
              simp (disch := first | omega | decide) only [go_sem, f0, f1, f5, f6, f7, o5, opn_cond, hc, if_true, cellsOf_step]
              exact hK _
            iterate 2 (apply aops_step (by decide) rfl; · (intro K hK; simp (disch := first | omega | decide) only [go_sem, f0, f1, f5, f6, f7, o5, cellsOf_step]; exact hK _))
            apply aops_merge' (by decide) (by first | exact want_of (d := 87) rfl (by simp (disch := first | omega | decide) only [go_sem, f0, f1, f5, f6, f7, o5, opn_cond, cellsOf_step]; rfl) | exact want_of_cond (d := 87) rfl (by simp (disch := first | omega | decide) only [go_sem, f0, f1, f5, f6, f7, o5, opn_cond, cellsOf_step]; rfl))
            · intro hc K hK
              have hc2 := hc
              simp only [beq_iff_eq, decide_eq_true_eq, decide_eq_false_iff_not, Bool.or_eq_true, Bool.and_eq_true, Bool.or_eq_false_iff, Bool.and_eq_false_iff] at hc2
              simp (disch := first | omega | decide) only [go_sem, f0, f1, f5, f6, f7, o5, opn_cond, hc, if_true, cellsOf_step]
              exact hK _
            apply aops_merge' (by decide) (by first | exact want_of (d := 87) rfl (by simp (disch := first | omega | decide) only [go_sem, f0, f1, f5, f6, f7, o5, opn_cond, cellsOf_step]; rfl) | exact want_of_cond (d := 87) rfl (by simp (disch := first | omega | decide) only [go_sem, f0, f1, f5, f6, f7, o5, opn_cond, cellsOf_step]; rfl))
            · intro hc K hK
              have hc2 := hc
              simp only [beq_iff_eq, decide_eq_true_eq, decide_eq_false_iff_not, Bool.or_eq_true, Bool.and_eq_true, Bool.or_eq_false_iff, Bool.and_eq_false_iff] at hc2
              simp (disch := first | omega | decide) only [go_sem, f0, f1, f5, f6, f7, o5, opn_cond, hc, if_true, cellsOf_step]
              exact hK _
            apply aops_merge' (by decide) (by first | exact want_of (d := 89) rfl (by simp (disch := first | omega | decide) only [go_sem, f0, f1, f5, f6, f7, o5, opn_cond, cellsOf_step]; rfl) | exact want_of_cond (d := 89) rfl (by simp (disch := first | omega | decide) only [go_sem, f0, f1, f5, f6, f7, o5, opn_cond, cellsOf_step]; rfl))
            · intro hc K hK
              have hc2 := hc
              simp only [beq_iff_eq, decide_eq_true_eq, decide_eq_false_iff_not, Bool.or_eq_true, Bool.and_eq_true, Bool.or_eq_false_iff, Bool.and_eq_false_iff] at hc2
              simp (disch := first | omega | decide) only [go_sem, f0, f1, f5, f6, f7, o5, opn_cond, hc, if_true, act_fieldAddr_t fo47_5, cellsOf_step]
              first | rw [mwp_fieldAddr_b (by simp (disch := first | omega | decide) only [go_sem, f0, f1, f5, f6, f7, o5, opn_cond, hc, if_true, cellsOf_step]; rfl)] | skip
              exact hK _
            apply aops_merge' (by decide) (by first | exact want_of (d := 89) rfl (by simp (disch := first | omega | decide) only [go_sem, f0, f1, f5, f6, f7, o5, opn_cond, cellsOf_step]; rfl) | exact want_of_cond (d := 89) rfl (by simp (disch := first | omega | decide) only [go_sem, f0, f1, f5, f6, f7, o5, opn_cond, cellsOf_step]; rfl))
            · intro hc K hK
              have hc2 := hc
              simp only [beq_iff_eq, decide_eq_true_eq, decide_eq_false_iff_not, Bool.or_eq_true, Bool.and_eq_true, Bool.or_eq_false_iff, Bool.and_eq_false_iff] at hc2
              simp (disch := first | omega | decide) only [go_sem, f0, f1, f5, f6, f7, o5, opn_cond, hc, if_true, act_load_t ti4, cellsOf_step]
              first | rw [mwp_load_i1 (by rfl)] | rw [mwp_load_g1 (by first | (rw [hG]; rfl) | rfl) (by rfl)] | rw [mwp_load_gs (by first | (rw [hG]; rfl) | rfl) (by simp)] | rw [mwp_load_bs (by simp (disch := first | omega | decide) only [go_sem, f0, f1, f5, f6, f7, o5, opn_cond, hc, if_true, cellsOf_step]; rfl) (by simp [setAt])] | rw [mwp_load_b1 (by simp (disch := first | omega | decide) only [go_sem, f0, f1, f5, f6, f7, o5, opn_cond, hc, if_true, cellsOf_step]; rfl) (by rfl)] | rw [mwp_aLoad_map (by simp (disch := first | omega | decide) only [go_sem, f0, f1, f5, f6, f7, o5, opn_cond, hc, if_true, cellsOf_step]; rfl) (by first | omega | (simp; omega)) (fun _ => rfl)] | rw [mwp_aLoad_e1 (by simp (disch := first | omega | decide) only [go_sem, f0, f1, f5, f6, f7, o5, opn_cond, hc, if_true, cellsOf_step]; rfl) (by simp) rfl] | skip
              exact hK _
            apply aops_merge' (by decide) (by first | exact want_of (d := 89) rfl (by simp (disch := first | omega | decide) only [go_sem, f0, f1, f5, f6, f7, o5, opn_cond, cellsOf_step]; rfl) | exact want_of_cond (d := 89) rfl (by simp (disch := first | omega | decide) only [go_sem, f0, f1, f5, f6, f7, o5, opn_cond, cellsOf_step]; rfl))
            · intro hc K hK
              have hc2 := hc
              simp only [beq_iff_eq, decide_eq_true_eq, decide_eq_false_iff_not, Bool.or_eq_true, Bool.and_eq_true, Bool.or_eq_false_iff, Bool.and_eq_false_iff] at hc2
              simp (disch := first | omega | decide) only [go_sem, f0, f1, f5, f6, f7, o5, opn_cond, hc, if_true, cellsOf_step]
              exact hK _
            apply aops_merge' (by decide) (by first | exact want_of (d := 87) rfl (by simp (disch := first | omega | decide) only [go_sem, f0, f1, f5, f6, f7, o5, opn_cond, cellsOf_step]; rfl) | exact want_of_cond (d := 87) rfl (by simp (disch := first | omega | decide) only [go_sem, f0, f1, f5, f6, f7, o5, opn_cond, cellsOf_step]; rfl))
            · intro hc K hK
              have hc2 := hc
              simp only [beq_iff_eq, decide_eq_true_eq, decide_eq_false_iff_not, Bool.or_eq_true, Bool.and_eq_true, Bool.or_eq_false_iff, Bool.and_eq_false_iff] at hc2
              simp (disch := first | omega | decide) only [go_sem, f0, f1, f5, f6, f7, o5, opn_cond, hc, if_true, cellsOf_step]
              exact hK _
            iterate 2 (apply aops_step (by decide) rfl; · (intro K hK; simp (disch := first | omega | decide) only [go_sem, f0, f1, f5, f6, f7, o5, cellsOf_step]; exact hK _))
            apply aops_merge' (by decide) (by first | exact want_of (d := 95) rfl (by simp (disch := first | omega | decide) only [go_sem, f0, f1, f5, f6, f7, o5, opn_cond, cellsOf_step]; rfl) | exact want_of_cond (d := 95) rfl (by simp (disch := first | omega | decide) only [go_sem, f0, f1, f5, f6, f7, o5, opn_cond, cellsOf_step]; rfl))
            · intro hc K hK
              have hc2 := hc
              simp only [beq_iff_eq, decide_eq_true_eq, decide_eq_false_iff_not, Bool.or_eq_true, Bool.and_eq_true, Bool.or_eq_false_iff, Bool.and_eq_false_iff] at hc2
              simp (disch := first | omega | decide) only [go_sem, f0, f1, f5, f6, f7, o5, opn_cond, hc, if_true, act_fieldAddr_t fo47_5, cellsOf_step]
              first | rw [mwp_fieldAddr_b (by simp (disch := first | omega | decide) only [go_sem, f0, f1, f5, f6, f7, o5, opn_cond, hc, if_true, cellsOf_step]; rfl)] | skip
              exact hK _
            apply aops_merge' (by decide) (by first | exact want_of (d := 95) rfl (by simp (disch := first | omega | decide) only [go_sem, f0, f1, f5, f6, f7, o5, opn_cond, cellsOf_step]; rfl) | exact want_of_cond (d := 95) rfl (by simp (disch := first | omega | decide) only [go_sem, f0, f1, f5, f6, f7, o5, opn_cond, cellsOf_step]; rfl))
            · intro hc K hK
              have hc2 := hc
              simp only [beq_iff_eq, decide_eq_true_eq, decide_eq_false_iff_not, Bool.or_eq_true, Bool.and_eq_true, Bool.or_eq_false_iff, Bool.and_eq_false_iff] at hc2
              simp (disch := first | omega | decide) only [go_sem, f0, f1, f5, f6, f7, o5, opn_cond, hc, if_true, act_load_t ti4, cellsOf_step]
              first | rw [mwp_load_i1 (by rfl)] | rw [mwp_load_g1 (by first | (rw [hG]; rfl) | rfl) (by rfl)] | rw [mwp_load_gs (by first | (rw [hG]; rfl) | rfl) (by simp)] | rw [mwp_load_bs (by simp (disch := first | omega | decide) only [go_sem, f0, f1, f5, f6, f7, o5, opn_cond, hc, if_true, cellsOf_step]; rfl) (by simp [setAt])] | rw [mwp_load_b1 (by simp (disch := first | omega | decide) only [go_sem, f0, f1, f5, f6, f7, o5, opn_cond, hc, if_true, cellsOf_step]; rfl) (by rfl)] | rw [mwp_aLoad_map (by simp (disch := first | omega | decide) only [go_sem, f0, f1, f5, f6, f7, o5, opn_cond, hc, if_true, cellsOf_step]; rfl) (by first | omega | (simp; omega)) (fun _ => rfl)] | rw [mwp_aLoad_e1 (by simp (disch := first | omega | decide) only [go_sem, f0, f1, f5, f6, f7, o5, opn_cond, hc, if_true, cellsOf_step]; rfl) (by simp) rfl] | skip
              exact hK _
            apply aops_merge' (by decide) (by first | exact want_of (d := 95) rfl (by simp (disch := first | omega | decide) only [go_sem, f0, f1, f5, f6, f7, o5, opn_cond, cellsOf_step]; rfl) | exact want_of_cond (d := 95) rfl (by simp (disch := first | omega | decide) only [go_sem, f0, f1, f5, f6, f7, o5, opn_cond, cellsOf_step]; rfl))
            · intro hc K hK
              have hc2 := hc
              simp only [beq_iff_eq, decide_eq_true_eq, decide_eq_false_iff_not, Bool.or_eq_true, Bool.and_eq_true, Bool.or_eq_false_iff, Bool.and_eq_false_iff] at hc2
              simp (disch := first | omega | decide) only [go_sem, f0, f1, f5, f6, f7, o5, opn_cond, hc, if_true, act_fieldAddr_t fo47_5, cellsOf_step]
              first | rw [mwp_fieldAddr_b (by simp (disch := first | omega | decide) only [go_sem, f0, f1, f5, f6, f7, o5, opn_cond, hc, if_true, cellsOf_step]; rfl)] | skip
              exact hK _
            apply aops_merge' (by decide) (by first | exact want_of (d := 95) rfl (by simp (disch := first | omega | decide) only [go_sem, f0, f1, f5, f6, f7, o5, opn_cond, cellsOf_step]; rfl) | exact want_of_cond (d := 95) rfl (by simp (disch := first | omega | decide) only [go_sem, f0, f1, f5, f6, f7, o5, opn_cond, cellsOf_step]; rfl))
            · intro hc K hK
              have hc2 := hc
              simp only [beq_iff_eq, decide_eq_true_eq, decide_eq_false_iff_not, Bool.or_eq_true, Bool.and_eq_true, Bool.or_eq_false_iff, Bool.and_eq_false_iff] at hc2
              simp (disch := first | omega | decide) only [go_sem, f0, f1, f5, f6, f7, o5, opn_cond, hc, if_true, act_load_t ti4, cellsOf_step]
              first | rw [mwp_load_i1 (by rfl)] | rw [mwp_load_g1 (by first | (rw [hG]; rfl) | rfl) (by rfl)] | rw [mwp_load_gs (by first | (rw [hG]; rfl) | rfl) (by simp)] | rw [mwp_load_bs (by simp (disch := first | omega | decide) only [go_sem, f0, f1, f5, f6, f7, o5, opn_cond, hc, if_true, cellsOf_step]; rfl) (by simp [setAt])] | rw [mwp_load_b1 (by simp (disch := first | omega | decide) only [go_sem, f0, f1, f5, f6, f7, o5, opn_cond, hc, if_true, cellsOf_step]; rfl) (by rfl)] | rw [mwp_aLoad_map (by simp (disch := first | omega | decide) only [go_sem, f0, f1, f5, f6, f7, o5, opn_cond, hc, if_true, cellsOf_step]; rfl) (by first | omega | (simp; omega)) (fun _ => rfl)] | rw [mwp_aLoad_e1 (by simp (disch := first | omega | decide) only [go_sem, f0, f1, f5, f6, f7, o5, opn_cond, hc, if_true, cellsOf_step]; rfl) (by simp) rfl] | skip
              exact hK _
            apply aops_merge' (by decide) (by first | exact want_of (d := 95) rfl (by simp (disch := first | omega | decide) only [go_sem, f0, f1, f5, f6, f7, o5, opn_cond, cellsOf_step]; rfl) | exact want_of_cond (d := 95) rfl (by simp (disch := first | omega | decide) only [go_sem, f0, f1, f5, f6, f7, o5, opn_cond, cellsOf_step]; rfl))
            · intro hc K hK
              have hc2 := hc
              simp only [beq_iff_eq, decide_eq_true_eq, decide_eq_false_iff_not, Bool.or_eq_true, Bool.and_eq_true, Bool.or_eq_false_iff, Bool.and_eq_false_iff] at hc2
              simp (disch := first | omega | decide) only [go_sem, f0, f1, f5, f6, f7, o5, opn_cond, hc, if_true, cellsOf_step]
              exact hK _
            apply aops_merge' (by decide) (by first | exact want_of (d := 100) rfl (by simp (disch := first | omega | decide) only [go_sem, f0, f1, f5, f6, f7, o5, opn_cond, cellsOf_step]; rfl) | exact want_of_cond (d := 100) rfl (by simp (disch := first | omega | decide) only [go_sem, f0, f1, f5, f6, f7, o5, opn_cond, cellsOf_step]; rfl))
            · intro hc K hK
              have hc2 := hc
              simp only [beq_iff_eq, decide_eq_true_eq, decide_eq_false_iff_not, Bool.or_eq_true, Bool.and_eq_true, Bool.or_eq_false_iff, Bool.and_eq_false_iff] at hc2
              simp (disch := first | omega | decide) only [go_sem, f0, f1, f5, f6, f7, o5, opn_cond, hc, if_true, cellsOf_step]
              exact hK _
            apply aops_merge' (by decide) (by first | exact want_of (d := 100) rfl (by simp (disch := first | omega | decide) only [go_sem, f0, f1, f5, f6, f7, o5, opn_cond, cellsOf_step]; rfl) | exact want_of_cond (d := 100) rfl (by simp (disch := first | omega | decide) only [go_sem, f0, f1, f5, f6, f7, o5, opn_cond, cellsOf_step]; rfl))
            · intro hc K hK
              have hc2 := hc
              simp only [beq_iff_eq, decide_eq_true_eq, decide_eq_false_iff_not, Bool.or_eq_true, Bool.and_eq_true, Bool.or_eq_false_iff, Bool.and_eq_false_iff] at hc2
              simp (disch := first | omega | decide) only [go_sem, f0, f1, f5, f6, f7, o5, opn_cond, hc, if_true, cellsOf_step]
              exact hK _
            apply aops_merge' (by decide) (by first | exact want_of (d := 95) rfl (by simp (disch := first | omega | decide) only [go_sem, f0, f1, f5, f6, f7, o5, opn_cond, cellsOf_step]; rfl) | exact want_of_cond (d := 95) rfl (by simp (disch := first | omega | decide) only [go_sem, f0, f1, f5, f6, f7, o5, opn_cond, cellsOf_step]; rfl))
            · intro hc K hK
              have hc2 := hc
              simp only [beq_iff_eq, decide_eq_true_eq, decide_eq_false_iff_not, Bool.or_eq_true, Bool.and_eq_true, Bool.or_eq_false_iff, Bool.and_eq_false_iff] at hc2
              simp (disch := first | omega | decide) only [go_sem, f0, f1, f5, f6, f7, o5, opn_cond, hc, if_true, cellsOf_step]
              exact hK _
            apply aops_merge' (by decide) (by first | exact want_of (d := 95) rfl (by simp (disch := first | omega | decide) only [go_sem, f0, f1, f5, f6, f7, o5, opn_cond, cellsOf_step]; rfl) | exact want_of_cond (d := 95) rfl (by simp (disch := first | omega | decide) only [go_sem, f0, f1, f5, f6, f7, o5, opn_cond, cellsOf_step]; rfl))
            · intro hc K hK
              have hc2 := hc
              simp only [beq_iff_eq, decide_eq_true_eq, decide_eq_false_iff_not, Bool.or_eq_true, Bool.and_eq_true, Bool.or_eq_false_iff, Bool.and_eq_false_iff] at hc2
              simp (disch := first | omega | decide) only [go_sem, f0, f1, f5, f6, f7, o5, opn_cond, hc, if_true, cellsOf_step]
              exact hK _
            apply aops_merge' (by decide) (by first | exact want_of (d := 104) rfl (by simp (disch := first | omega | decide) only [go_sem, f0, f1, f5, f6, f7, o5, opn_cond, cellsOf_step]; rfl) | exact want_of_cond (d := 104) rfl (by simp (disch := first | omega | decide) only [go_sem, f0, f1, f5, f6, f7, o5, opn_cond, cellsOf_step]; rfl))
            · intro hc K hK
              have hc2 := hc
              simp only [beq_iff_eq, decide_eq_true_eq, decide_eq_false_iff_not, Bool.or_eq_true, Bool.and_eq_true, Bool.or_eq_false_iff, Bool.and_eq_false_iff] at hc2
              simp (disch := first | omega | decide) only [go_sem, f0, f1, f5, f6, f7, o5, opn_cond, hc, if_true, cellsOf_step]
              exact hK _
            apply aops_merge' (by decide) (by first | exact want_of (d := 95) rfl (by simp (disch := first | omega | decide) only [go_sem, f0, f1, f5, f6, f7, o5, opn_cond, cellsOf_step]; rfl) | exact want_of_cond (d := 95) rfl (by simp (disch := first | omega | decide) only [go_sem, f0, f1, f5, f6, f7, o5, opn_cond, cellsOf_step]; rfl))
            · intro hc K hK
              have hc2 := hc
              simp only [beq_iff_eq, decide_eq_true_eq, decide_eq_false_iff_not, Bool.or_eq_true, Bool.and_eq_true, Bool.or_eq_false_iff, Bool.and_eq_false_iff] at hc2
              simp (disch := first | omega | decide) only [go_sem, f0, f1, f5, f6, f7, o5, opn_cond, hc, if_true, cellsOf_step]
              exact hK _
            apply aops_merge' (by decide) (by first | exact want_of (d := 95) rfl (by simp (disch := first | omega | decide) only [go_sem, f0, f1, f5, f6, f7, o5, opn_cond, cellsOf_step]; rfl) | exact want_of_cond (d := 95) rfl (by simp (disch := first | omega | decide) only [go_sem, f0, f1, f5, f6, f7, o5, opn_cond, cellsOf_step]; rfl))
            · intro hc K hK
              have hc2 := hc
              simp only [beq_iff_eq, decide_eq_true_eq, decide_eq_false_iff_not, Bool.or_eq_true, Bool.and_eq_true, Bool.or_eq_false_iff, Bool.and_eq_false_iff] at hc2
              simp (disch := first | omega | decide) only [go_sem, f0, f1, f5, f6, f7, o5, opn_cond, hc, if_true, bin_neq_b u4, cellsOf_step]
              exact hK _
            iterate 2 (apply aops_step (by decide) rfl; · (intro K hK; simp (disch := first | omega | decide) only [go_sem, f0, f1, f5, f6, f7, o5, cellsOf_step]; exact hK _))
            apply aops_merge' (by decide) (by first | exact want_of (d := 109) rfl (by simp (disch := first | omega | decide) only [go_sem, f0, f1, f5, f6, f7, o5, opn_cond, cellsOf_step]; rfl) | exact want_of_cond (d := 109) rfl (by simp (disch := first | omega | decide) only [go_sem, f0, f1, f5, f6, f7, o5, opn_cond, cellsOf_step]; rfl))
            · intro hc K hK
              have hc2 := hc
              simp only [beq_iff_eq, decide_eq_true_eq, decide_eq_false_iff_not, Bool.or_eq_true, Bool.and_eq_true, Bool.or_eq_false_iff, Bool.and_eq_false_iff] at hc2
              simp (disch := first | omega | decide) only [go_sem, f0, f1, f5, f6, f7, o5, opn_cond, hc, if_true, act_fieldAddr_t fo47_2, cellsOf_step]
              first | rw [mwp_fieldAddr_b (by simp (disch := first | omega | decide) only [go_sem, f0, f1, f5, f6, f7, o5, opn_cond, hc, if_true, cellsOf_step]; rfl)] | skip
              exact hK _
            apply aops_merge' (by decide) (by first | exact want_of (d := 109) rfl (by simp (disch := first | omega | decide) only [go_sem, f0, f1, f5, f6, f7, o5, opn_cond, cellsOf_step]; rfl) | exact want_of_cond (d := 109) rfl (by simp (disch := first | omega | decide) only [go_sem, f0, f1, f5, f6, f7, o5, opn_cond, cellsOf_step]; rfl))
            · intro hc K hK
              have hc2 := hc
              simp only [beq_iff_eq, decide_eq_true_eq, decide_eq_false_iff_not, Bool.or_eq_true, Bool.and_eq_true, Bool.or_eq_false_iff, Bool.and_eq_false_iff] at hc2
              simp (disch := first | omega | decide) only [go_sem, f0, f1, f5, f6, f7, o5, opn_cond, hc, if_true, act_load_t ti3, cellsOf_step]
              first | rw [mwp_load_i1 (by rfl)] | rw [mwp_load_g1 (by first | (rw [hG]; rfl) | rfl) (by rfl)] | rw [mwp_load_gs (by first | (rw [hG]; rfl) | rfl) (by simp)] | rw [mwp_load_bs (by simp (disch := first | omega | decide) only [go_sem, f0, f1, f5, f6, f7, o5, opn_cond, hc, if_true, cellsOf_step]; rfl) (by simp [setAt])] | rw [mwp_load_b1 (by simp (disch := first | omega | decide) only [go_sem, f0, f1, f5, f6, f7, o5, opn_cond, hc, if_true, cellsOf_step]; rfl) (by rfl)] | rw [mwp_aLoad_map (by simp (disch := first | omega | decide) only [go_sem, f0, f1, f5, f6, f7, o5, opn_cond, hc, if_true, cellsOf_step]; rfl) (by first | omega | (simp; omega)) (fun _ => rfl)] | rw [mwp_aLoad_e1 (by simp (disch := first | omega | decide) only [go_sem, f0, f1, f5, f6, f7, o5, opn_cond, hc, if_true, cellsOf_step]; rfl) (by simp) rfl] | skip
              exact hK _
            apply aops_merge' (by decide) (by first | exact want_of (d := 109) rfl (by simp (disch := first | omega | decide) only [go_sem, f0, f1, f5, f6, f7, o5, opn_cond, cellsOf_step]; rfl) | exact want_of_cond (d := 109) rfl (by simp (disch := first | omega | decide) only [go_sem, f0, f1, f5, f6, f7, o5, opn_cond, cellsOf_step]; rfl))
            · intro hc K hK
              have hc2 := hc
              simp only [beq_iff_eq, decide_eq_true_eq, decide_eq_false_iff_not, Bool.or_eq_true, Bool.and_eq_true, Bool.or_eq_false_iff, Bool.and_eq_false_iff] at hc2
              simp (disch := first | omega | decide) only [go_sem, f0, f1, f5, f6, f7, o5, opn_cond, hc, if_true, act_fieldAddr_t fo47_2, cellsOf_step]
              first | rw [mwp_fieldAddr_b (by simp (disch := first | omega | decide) only [go_sem, f0, f1, f5, f6, f7, o5, opn_cond, hc, if_true, cellsOf_step]; rfl)] | skip
              exact hK _
            apply aops_merge' (by decide) (by first | exact want_of (d := 109) rfl (by simp (disch := first | omega | decide) only [go_sem, f0, f1, f5, f6, f7, o5, opn_cond, cellsOf_step]; rfl) | exact want_of_cond (d := 109) rfl (by simp (disch := first | omega | decide) only [go_sem, f0, f1, f5, f6, f7, o5, opn_cond, cellsOf_step]; rfl))
            · intro hc K hK
              have hc2 := hc
              simp only [beq_iff_eq, decide_eq_true_eq, decide_eq_false_iff_not, Bool.or_eq_true, Bool.and_eq_true, Bool.or_eq_false_iff, Bool.and_eq_false_iff] at hc2
              simp (disch := first | omega | decide) only [go_sem, f0, f1, f5, f6, f7, o5, opn_cond, hc, if_true, act_load_t ti3, cellsOf_step]
              first | rw [mwp_load_i1 (by rfl)] | rw [mwp_load_g1 (by first | (rw [hG]; rfl) | rfl) (by rfl)] | rw [mwp_load_gs (by first | (rw [hG]; rfl) | rfl) (by simp)] | rw [mwp_load_bs (by simp (disch := first | omega | decide) only [go_sem, f0, f1, f5, f6, f7, o5, opn_cond, hc, if_true, cellsOf_step]; rfl) (by simp [setAt])] | rw [mwp_load_b1 (by simp (disch := first | omega | decide) only [go_sem, f0, f1, f5, f6, f7, o5, opn_cond, hc, if_true, cellsOf_step]; rfl) (by rfl)] | rw [mwp_aLoad_map (by simp (disch := first | omega | decide) only [go_sem, f0, f1, f5, f6, f7, o5, opn_cond, hc, if_true, cellsOf_step]; rfl) (by first | omega | (simp; omega)) (fun _ => rfl)] | rw [mwp_aLoad_e1 (by simp (disch := first | omega | decide) only [go_sem, f0, f1, f5, f6, f7, o5, opn_cond, hc, if_true, cellsOf_step]; rfl) (by simp) rfl] | skip
              exact hK _
            apply aops_merge' (by decide) (by first | exact want_of (d := 109) rfl (by simp (disch := first | omega | decide) only [go_sem, f0, f1, f5, f6, f7, o5, opn_cond, cellsOf_step]; rfl) | exact want_of_cond (d := 109) rfl (by simp (disch := first | omega | decide) only [go_sem, f0, f1, f5, f6, f7, o5, opn_cond, cellsOf_step]; rfl))
            · intro hc K hK
              have hc2 := hc
              simp only [beq_iff_eq, decide_eq_true_eq, decide_eq_false_iff_not, Bool.or_eq_true, Bool.and_eq_true, Bool.or_eq_false_iff, Bool.and_eq_false_iff] at hc2
              simp (disch := first | omega | decide) only [go_sem, f0, f1, f5, f6, f7, o5, opn_cond, hc, if_true, cellsOf_step]
              exact hK _
            iterate 2 (apply aops_step (by decide) rfl; · (intro K hK; simp (disch := first | omega | decide) only [go_sem, f0, f1, f5, f6, f7, o5, cellsOf_step]; exact hK _))
            apply aops_merge' (by decide) (by first | exact want_of (d := 116) rfl (by simp (disch := first | omega | decide) only [go_sem, f0, f1, f5, f6, f7, o5, opn_cond, cellsOf_step]; rfl) | exact want_of_cond (d := 116) rfl (by simp (disch := first | omega | decide) only [go_sem, f0, f1, f5, f6, f7, o5, opn_cond, cellsOf_step]; rfl))
            · intro hc K hK
              have hc2 := hc
              simp only [beq_iff_eq, decide_eq_true_eq, decide_eq_false_iff_not, Bool.or_eq_true, Bool.and_eq_true, Bool.or_eq_false_iff, Bool.and_eq_false_iff] at hc2
              simp (disch := first | omega | decide) only [go_sem, f0, f1, f5, f6, f7, o5, opn_cond, hc, if_true, cellsOf_step]
              exact hK _
            apply aops_merge' (by decide) (by first | exact want_of (d := 116) rfl (by simp (disch := first | omega | decide) only [go_sem, f0, f1, f5, f6, f7, o5, opn_cond, cellsOf_step]; rfl) | exact want_of_cond (d := 116) rfl (by simp (disch := first | omega | decide) only [go_sem, f0, f1, f5, f6, f7, o5, opn_cond, cellsOf_step]; rfl))
            · intro hc K hK
              have hc2 := hc
              simp only [beq_iff_eq, decide_eq_true_eq, decide_eq_false_iff_not, Bool.or_eq_true, Bool.and_eq_true, Bool.or_eq_false_iff, Bool.and_eq_false_iff] at hc2
              simp (disch := first | omega | decide) only [go_sem, f0, f1, f5, f6, f7, o5, opn_cond, hc, if_true, cellsOf_step]
              exact hK _
            apply aops_merge' (by decide) (by first | exact want_of (d := 116) rfl (by simp (disch := first | omega | decide) only [go_sem, f0, f1, f5, f6, f7, o5, opn_cond, cellsOf_step]; rfl) | exact want_of_cond (d := 116) rfl (by simp (disch := first | omega | decide) only [go_sem, f0, f1, f5, f6, f7, o5, opn_cond, cellsOf_step]; rfl))
            · intro hc K hK
              have hc2 := hc
              simp only [beq_iff_eq, decide_eq_true_eq, decide_eq_false_iff_not, Bool.or_eq_true, Bool.and_eq_true, Bool.or_eq_false_iff, Bool.and_eq_false_iff] at hc2
              simp (disch := first | omega | decide) only [go_sem, f0, f1, f5, f6, f7, o5, opn_cond, hc, if_true, cellsOf_step]
              exact hK _
            apply aops_merge' (by decide) (by first | exact want_of (d := 119) rfl (by simp (disch := first | omega | decide) only [go_sem, f0, f1, f5, f6, f7, o5, opn_cond, cellsOf_step]; rfl) | exact want_of_cond (d := 119) rfl (by simp (disch := first | omega | decide) only [go_sem, f0, f1, f5, f6, f7, o5, opn_cond, cellsOf_step]; rfl))
            · intro hc K hK
              have hc2 := hc
              simp only [beq_iff_eq, decide_eq_true_eq, decide_eq_false_iff_not, Bool.or_eq_true, Bool.and_eq_true, Bool.or_eq_false_iff, Bool.and_eq_false_iff] at hc2
              simp (disch := first | omega | decide) only [go_sem, f0, f1, f5, f6, f7, o5, opn_cond, hc, if_true, act_fieldAddr_t fo47_5, cellsOf_step]
              first | rw [mwp_fieldAddr_b (by simp (disch := first | omega | decide) only [go_sem, f0, f1, f5, f6, f7, o5, opn_cond, hc, if_true, cellsOf_step]; rfl)] | skip
              exact hK _
            apply aops_merge' (by decide) (by first | exact want_of (d := 119) rfl (by simp (disch := first | omega | decide) only [go_sem, f0, f1, f5, f6, f7, o5, opn_cond, cellsOf_step]; rfl) | exact want_of_cond (d := 119) rfl (by simp (disch := first | omega | decide) only [go_sem, f0, f1, f5, f6, f7, o5, opn_cond, cellsOf_step]; rfl))
            · intro hc K hK
              have hc2 := hc
              simp only [beq_iff_eq, decide_eq_true_eq, decide_eq_false_iff_not, Bool.or_eq_true, Bool.and_eq_true, Bool.or_eq_false_iff, Bool.and_eq_false_iff] at hc2
              simp (disch := first | omega | decide) only [go_sem, f0, f1, f5, f6, f7, o5, opn_cond, hc, if_true, act_load_t ti4, cellsOf_step]
              first | rw [mwp_load_i1 (by rfl)] | rw [mwp_load_g1 (by first | (rw [hG]; rfl) | rfl) (by rfl)] | rw [mwp_load_gs (by first | (rw [hG]; rfl) | rfl) (by simp)] | rw [mwp_load_bs (by simp (disch := first | omega | decide) only [go_sem, f0, f1, f5, f6, f7, o5, opn_cond, hc, if_true, cellsOf_step]; rfl) (by simp [setAt])] | rw [mwp_load_b1 (by simp (disch := first | omega | decide) only [go_sem, f0, f1, f5, f6, f7, o5, opn_cond, hc, if_true, cellsOf_step]; rfl) (by rfl)] | rw [mwp_aLoad_map (by simp (disch := first | omega | decide) only [go_sem, f0, f1, f5, f6, f7, o5, opn_cond, hc, if_true, cellsOf_step]; rfl) (by first | omega | (simp; omega)) (fun _ => rfl)] | rw [mwp_aLoad_e1 (by simp (disch := first | omega | decide) only [go_sem, f0, f1, f5, f6, f7, o5, opn_cond, hc, if_true, cellsOf_step]; rfl) (by simp) rfl] | skip
              exact hK _
            apply aops_merge' (by decide) (by first | exact want_of (d := 116) rfl (by simp (disch := first | omega | decide) only [go_sem, f0, f1, f5, f6, f7, o5, opn_cond, cellsOf_step]; rfl) | exact want_of_cond (d := 116) rfl (by simp (disch := first | omega | decide) only [go_sem, f0, f1, f5, f6, f7, o5, opn_cond, cellsOf_step]; rfl))
            · intro hc K hK
              have hc2 := hc
              simp only [beq_iff_eq, decide_eq_true_eq, decide_eq_false_iff_not, Bool.or_eq_true, Bool.and_eq_true, Bool.or_eq_false_iff, Bool.and_eq_false_iff] at hc2
              simp (disch := first | omega | decide) only [go_sem, f0, f1, f5, f6, f7, o5, opn_cond, hc, if_true, cellsOf_step]
              exact hK _
            iterate 2 (apply aops_step (by decide) rfl; · (intro K hK; simp (disch := first | omega | decide) only [go_sem, f0, f1, f5, f6, f7, o5, cellsOf_step]; exact hK _))
            apply aops_merge' (by decide) (by first | exact want_of (d := 124) rfl (by simp (disch := first | omega | decide) only [go_sem, f0, f1, f5, f6, f7, o5, opn_cond, cellsOf_step]; rfl) | exact want_of_cond (d := 124) rfl (by simp (disch := first | omega | decide) only [go_sem, f0, f1, f5, f6, f7, o5, opn_cond, cellsOf_step]; rfl))
            · intro hc K hK
              have hc2 := hc
              simp only [beq_iff_eq, decide_eq_true_eq, decide_eq_false_iff_not, Bool.or_eq_true, Bool.and_eq_true, Bool.or_eq_false_iff, Bool.and_eq_false_iff] at hc2
              simp (disch := first | omega | decide) only [go_sem, f0, f1, f5, f6, f7, o5, opn_cond, hc, if_true, act_fieldAddr_t fo47_0, cellsOf_step]
              first | rw [mwp_fieldAddr_b (by simp (disch := first | omega | decide) only [go_sem, f0, f1, f5, f6, f7, o5, opn_cond, hc, if_true, cellsOf_step]; rfl)] | skip
              exact hK _
            apply aops_merge' (by decide) (by first | exact want_of (d := 124) rfl (by simp (disch := first | omega | decide) only [go_sem, f0, f1, f5, f6, f7, o5, opn_cond, cellsOf_step]; rfl) | exact want_of_cond (d := 124) rfl (by simp (disch := first | omega | decide) only [go_sem, f0, f1, f5, f6, f7, o5, opn_cond, cellsOf_step]; rfl))
            · intro hc K hK
              have hc2 := hc
              simp only [beq_iff_eq, decide_eq_true_eq, decide_eq_false_iff_not, Bool.or_eq_true, Bool.and_eq_true, Bool.or_eq_false_iff, Bool.and_eq_false_iff] at hc2
              simp (disch := first | omega | decide) only [go_sem, f0, f1, f5, f6, f7, o5, opn_cond, hc, if_true, act_load_t ti3, cellsOf_step]
              first | rw [mwp_load_i1 (by rfl)] | rw [mwp_load_g1 (by first | (rw [hG]; rfl) | rfl) (by rfl)] | rw [mwp_load_gs (by first | (rw [hG]; rfl) | rfl) (by simp)] | rw [mwp_load_bs (by simp (disch := first | omega | decide) only [go_sem, f0, f1, f5, f6, f7, o5, opn_cond, hc, if_true, cellsOf_step]; rfl) (by simp [setAt])] | rw [mwp_load_b1 (by simp (disch := first | omega | decide) only [go_sem, f0, f1, f5, f6, f7, o5, opn_cond, hc, if_true, cellsOf_step]; rfl) (by rfl)] | rw [mwp_aLoad_map (by simp (disch := first | omega | decide) only [go_sem, f0, f1, f5, f6, f7, o5, opn_cond, hc, if_true, cellsOf_step]; rfl) (by first | omega | (simp; omega)) (fun _ => rfl)] | rw [mwp_aLoad_e1 (by simp (disch := first | omega | decide) only [go_sem, f0, f1, f5, f6, f7, o5, opn_cond, hc, if_true, cellsOf_step]; rfl) (by simp) rfl] | skip
              exact hK _
            apply aops_merge' (by decide) (by first | exact want_of (d := 124) rfl (by simp (disch := first | omega | decide) only [go_sem, f0, f1, f5, f6, f7, o5, opn_cond, cellsOf_step]; rfl) | exact want_of_cond (d := 124) rfl (by simp (disch := first | omega | decide) only [go_sem, f0, f1, f5, f6, f7, o5, opn_cond, cellsOf_step]; rfl))
            · intro hc K hK
              have hc2 := hc
              simp only [beq_iff_eq, decide_eq_true_eq, decide_eq_false_iff_not, Bool.or_eq_true, Bool.and_eq_true, Bool.or_eq_false_iff, Bool.and_eq_false_iff] at hc2
              simp (disch := first | omega | decide) only [go_sem, f0, f1, f5, f6, f7, o5, opn_cond, hc, if_true, cellsOf_step]
              exact hK _
            apply aops_merge' (by decide) (by first | exact want_of (d := 124) rfl (by simp (disch := first | omega | decide) only [go_sem, f0, f1, f5, f6, f7, o5, opn_cond, cellsOf_step]; rfl) | exact want_of_cond (d := 124) rfl (by simp (disch := first | omega | decide) only [go_sem, f0, f1, f5, f6, f7, o5, opn_cond, cellsOf_step]; rfl))
            · intro hc K hK
              have hc2 := hc
              simp only [beq_iff_eq, decide_eq_true_eq, decide_eq_false_iff_not, Bool.or_eq_true, Bool.and_eq_true, Bool.or_eq_false_iff, Bool.and_eq_false_iff] at hc2
              simp (disch := first | omega | decide) only [go_sem, f0, f1, f5, f6, f7, o5, opn_cond, hc, if_true, cellsOf_step]
              exact hK _
            iterate 1 (apply aops_step (by decide) rfl; · (intro K hK; simp (disch := first | omega | decide) only [go_sem, f0, f1, f5, f6, f7, o5, cellsOf_step]; exact hK _))
            refine aops_nil ?_
            apply AW.cond
            · simp (disch := first | omega | decide) only [go_sem, f0, f1, f5, f6, f7, o5, cellsOf_step]; rfl
            case ht =>
              intro hb
              try simp only [Bool.or_eq_true, Bool.and_eq_true, Bool.or_eq_false_iff, Bool.and_eq_false_iff, decide_eq_true_eq, decide_eq_false_iff_not] at hb
              have hbt129 := hb
              refine AW.seq ?_
              refine AW.region (cfg := cfg) ?_
              iterate 1 (apply aops_step (by decide) rfl; · (intro K hK; simp (disch := first | omega | decide) only [go_sem, f0, f1, f5, f6, f7, o5, cellsOf_step]; exact hK _))
              refine aops_nil ?_
              refine AW.ret ?_
              refine ⟨.inr rfl, ?_⟩
              refine leaves_tmp1 4 rfl ?_ (by first | rfl | exact hG)
              simp (disch := first | omega | decide) only [go_sem, f0, f1, f5, f6, f7, o5, cellsOf_step]
              all_goals first | done | (exfalso; simp only [okStep] at s1 s2 s3; simp only [ne_eq, Decidable.not_not] at hbt79; first | (have y := s1 hbt79; clear s1 s2 s3; grind) | (have y := s2; clear s1 s2 s3; grind) | (have y := s3 hbt79; clear s1 s2 s3; grind)) | trace_state
            case hf =>
              intro hb
              try simp only [Bool.or_eq_true, Bool.and_eq_true, Bool.or_eq_false_iff, Bool.and_eq_false_iff, decide_eq_true_eq, decide_eq_false_iff_not] at hb
              have hbt129 := hb
              refine AW.skip ?_
              refine AW.region (cfg := cfg) ?_
              iterate 3 (apply aops_step (by decide) rfl; · (intro K hK; simp (disch := first | omega | decide) only [go_sem, f0, f1, f5, f6, f7, o5, cellsOf_step]; exact hK _))
              refine aops_nil ?_
              refine ⟨_, _, ?_, ?_, ?_, ?_, ?_, ?_, ?_, ?_, ?_, rfl, ?_, ?_, ?_, ?_, ?_, ?_, ?_, ?_, ?_, ?_, hG⟩ <;> try simp (disch := first | omega | decide) only [go_sem, f0, f1, f5, f6, f7, o5, cellsOf_step]
              all_goals first | rfl | skip
              all_goals (simp only [okStep] at s1 s2 s3)
              all_goals (try simp only [ne_eq, Decidable.not_not] at hbt79)
              all_goals first | assumption | exact mo0 | exact mo1 | omega | (exfalso; simp [chk, mo0] at hbt79; done) | exact (s1 hbt79).1 | exact s2.1.1 | exact (s3 hbt79).1.1 | exact (s1 hbt79).2.1.trans mo1 | exact s2.1.2.1.trans mo1 | exact (s3 hbt79).1.2.1.trans mo1 | (intro _; omega) | (have z := s1 hbt79; intro _; omega) | (intro z; have z3 := mo3 (s2.2 z).1; have z4 := (s2.2 z).2; have z5 : ((⟨of, co, bo, ep, he, fu, ag, go⟩ : Near)).ag = ag := rfl; omega) | (intro z; have z3 := mo3 ((s3 hbt79).2 z).1; have z4 := ((s3 hbt79).2 z).2; have z5 : ((⟨of, co, bo, ep, he, fu, ag, go⟩ : Near)).ag = ag := rfl; omega) | trace_state
        case hf =>
          intro hb
          try simp only [Bool.or_eq_true, Bool.and_eq_true, Bool.or_eq_false_iff, Bool.and_eq_false_iff, decide_eq_true_eq, decide_eq_false_iff_not] at hb
          have hbt68 := hb
          refine AW.draw (cfg := cfg) (by kernel_rfl) (by kernel_rfl) (by kernel_rfl) ?_
          apply adraw_step rfl
          · intro K hK
            simp (disch := first | omega | decide) only [go_sem, f0, f1, f5, f6, f7, o5, act_load_t ti47, List.map, cellsOf_step]
            first | rw [mwp_load_i1 (by rfl)] | rw [mwp_load_g1 (by first | (rw [hG]; rfl) | rfl) (by rfl)] | rw [mwp_load_gs (by first | (rw [hG]; rfl) | rfl) (by simp)] | rw [mwp_load_bs (by simp (disch := first | omega | decide) only [go_sem, f0, f1, f5, f6, f7, o5, cellsOf_step]; rfl) (by simp [setAt])] | rw [mwp_load_b1 (by simp (disch := first | omega | decide) only [go_sem, f0, f1, f5, f6, f7, o5, cellsOf_step]; rfl) (by rfl)] | rw [mwp_aLoad_map (by simp (disch := first | omega | decide) only [go_sem, f0, f1, f5, f6, f7, o5, cellsOf_step]; rfl) (by first | omega | (simp; omega)) (fun _ => rfl)] | rw [mwp_aLoad_e1 (by simp (disch := first | omega | decide) only [go_sem, f0, f1, f5, f6, f7, o5, cellsOf_step]; rfl) (by simp) rfl] | skip
            exact hK
          iterate 2 (apply adraw_step rfl; · (intro K hK; simp (disch := first | omega | decide) only [go_sem, f0, f1, f5, f6, f7, o5, cellsOf_step]; exact hK))
          apply adraw_step rfl
          · intro K hK
            simp (disch := first | omega | decide) only [go_sem, f0, f1, f5, f6, f7, o5, act_indexAddr_s u80 ti82, List.map, cellsOf_step]
            first | rw [mwp_aIndex_own (by simp (disch := first | omega | decide) only [go_sem, f0, f1, f5, f6, f7, o5, cellsOf_step]; rfl) (by first | omega | (simp; omega)) (by first | omega | (simp; omega))] | skip
            exact hK
          apply adraw_step rfl
          · intro K hK
            simp (disch := first | omega | decide) only [go_sem, f0, f1, f5, f6, f7, o5, act_fieldAddr_t fo82_1, List.map, cellsOf_step]
            first | rw [mwp_fieldAddr_b (by simp (disch := first | omega | decide) only [go_sem, f0, f1, f5, f6, f7, o5, cellsOf_step]; rfl)] | skip
            exact hK
          apply adraw_step rfl
          · intro K hK
            simp (disch := first | omega | decide) only [go_sem, f0, f1, f5, f6, f7, o5, act_load_t ti3, List.map, cellsOf_step]
            first | rw [mwp_load_i1 (by rfl)] | rw [mwp_load_g1 (by first | (rw [hG]; rfl) | rfl) (by rfl)] | rw [mwp_load_gs (by first | (rw [hG]; rfl) | rfl) (by simp)] | rw [mwp_load_bs (by simp (disch := first | omega | decide) only [go_sem, f0, f1, f5, f6, f7, o5, cellsOf_step]; rfl) (by simp [setAt])] | rw [mwp_load_b1 (by simp (disch := first | omega | decide) only [go_sem, f0, f1, f5, f6, f7, o5, cellsOf_step]; rfl) (by rfl)] | rw [mwp_aLoad_map (by simp (disch := first | omega | decide) only [go_sem, f0, f1, f5, f6, f7, o5, cellsOf_step]; rfl) (by first | omega | (simp; omega)) (fun _ => rfl)] | rw [mwp_aLoad_e1 (by simp (disch := first | omega | decide) only [go_sem, f0, f1, f5, f6, f7, o5, cellsOf_step]; rfl) (by simp) rfl] | skip
            exact hK
          apply adraw_step rfl
          · intro K hK
            simp (disch := first | omega | decide) only [go_sem, f0, f1, f5, f6, f7, o5, act_call, List.map, cellsOf_step]
            apply mwp_call_r rfl rfl rfl
            · intro Q hQ
              simp (disch := first | omega | decide) only [go_sem, f0, f1, f5, f6, f7, o5, peekL, reifyL_nil, reifyL_cons, reify_v, cellsOf_step]
              first | exact hQ | ((first | rw [peek_own (by simp (disch := first | omega | decide) only [go_sem, f0, f1, f5, f6, f7, o5, peekL, cellsOf_step]; rfl)] | rw [mwp_reify_own (by simp (disch := first | omega | decide) only [go_sem, f0, f1, f5, f6, f7, o5, peekL, cellsOf_step]; rfl)]); exact hQ) | ((first | rw [peek_own (by simp (disch := first | omega | decide) only [go_sem, f0, f1, f5, f6, f7, o5, peekL, cellsOf_step]; rfl)] | rw [mwp_reify_own (by simp (disch := first | omega | decide) only [go_sem, f0, f1, f5, f6, f7, o5, peekL, cellsOf_step]; rfl)]); simp (disch := first | omega | decide) only [go_sem, f0, f1, f5, f6, f7, o5, peekL, cellsOf_step]; (first | rw [peek_own (by simp (disch := first | omega | decide) only [go_sem, f0, f1, f5, f6, f7, o5, peekL, cellsOf_step]; rfl)] | rw [mwp_reify_own (by simp (disch := first | omega | decide) only [go_sem, f0, f1, f5, f6, f7, o5, peekL, cellsOf_step]; rfl)]); exact hQ) | ((first | rw [peek_own (by simp (disch := first | omega | decide) only [go_sem, f0, f1, f5, f6, f7, o5, peekL, cellsOf_step]; rfl)] | rw [mwp_reify_own (by simp (disch := first | omega | decide) only [go_sem, f0, f1, f5, f6, f7, o5, peekL, cellsOf_step]; rfl)]); simp (disch := first | omega | decide) only [go_sem, f0, f1, f5, f6, f7, o5, peekL, cellsOf_step]; exact hQ)
            · exact good_Cost (⟨of, co, bo, ep, he, fu, ag, go⟩ : Near) _
            · simp [-List.map_take, -List.map_drop, noPtrL, noPtr, noPtrL_bsl, noPtrL_map, sub]
            · simp (disch := first | omega | decide) only [go_sem, f0, f1, f5, f6, f7, o5, cellsOf_step]
              exact hK
          iterate 4 (apply adraw_step rfl; · (intro K hK; simp (disch := first | omega | decide) only [go_sem, f0, f1, f5, f6, f7, o5, cellsOf_step]; exact hK))
          apply adraw_step0 rfl
          · intro K hK
            simp (disch := first | omega | decide) only [go_sem, f0, f1, f5, f6, f7, o5, act_store_t ti47, List.map, cellsOf_step]
            first | rw [mwp_store_g1 (by first | (rw [hG]; rfl) | rfl) (by simp) rfl rfl] | rw [mwp_store_c (by simp (disch := first | omega | decide) only [go_sem, f0, f1, f5, f6, f7, o5, cellsOf_step]; rfl) (by rfl) (by rfl) (by rfl) (by simp)] | rw [mwp_aStore_map (by simp (disch := first | omega | decide) only [go_sem, f0, f1, f5, f6, f7, o5, cellsOf_step]; rfl) (by first | omega | (simp; omega)) (fun _ => rfl) rfl rfl (fun _ => rfl)] | skip
            try simp only [setAt, cellsL, cellsOf_agg, cellsOf_base, List.map_cons, List.map_nil, List.set_cons_zero, List.set_cons_succ, Nat.reduceAdd, Nat.zero_add, hG]
            exact hK
          iterate 2 (apply adraw_step rfl; · (intro K hK; simp (disch := first | omega | decide) only [go_sem, f0, f1, f5, f6, f7, o5, cellsOf_step]; exact hK))
          refine adraw_nil (by kernel_rfl) ?_
          refine AW.seq ?_
          refine AW.seq ?_
          refine AW.region (cfg := cfg) ?_
          iterate 2 (apply aops_step (by decide) rfl; · (intro K hK; simp (disch := first | omega | decide) only [go_sem, f0, f1, f5, f6, f7, o5, cellsOf_step]; exact hK _))
          refine aops_nil ?_
          apply AW.cond
          · simp (disch := first | omega | decide) only [go_sem, f0, f1, f5, f6, f7, o5, cellsOf_step]; rfl
          case ht =>
            intro hb
            try simp only [Bool.or_eq_true, Bool.and_eq_true, Bool.or_eq_false_iff, Bool.and_eq_false_iff, decide_eq_true_eq, decide_eq_false_iff_not] at hb
            have hbt79 := hb
            refine AW.seq ?_
            refine AW.region (cfg := cfg) ?_
            apply aops_step (by decide) rfl
            · intro K hK
              simp (disch := first | omega | decide) only [go_sem, f0, f1, f5, f6, f7, o5, act_load_t ti47, List.map, cellsOf_step]
              first | rw [mwp_load_i1 (by rfl)] | rw [mwp_load_g1 (by first | (rw [hG]; rfl) | rfl) (by rfl)] | rw [mwp_load_gs (by first | (rw [hG]; rfl) | rfl) (by simp)] | rw [mwp_load_bs (by simp (disch := first | omega | decide) only [go_sem, f0, f1, f5, f6, f7, o5, cellsOf_step]; rfl) (by simp [setAt])] | rw [mwp_load_b1 (by simp (disch := first | omega | decide) only [go_sem, f0, f1, f5, f6, f7, o5, cellsOf_step]; rfl) (by rfl)] | rw [mwp_aLoad_map (by simp (disch := first | omega | decide) only [go_sem, f0, f1, f5, f6, f7, o5, cellsOf_step]; rfl) (by first | omega | (simp; omega)) (fun _ => rfl)] | rw [mwp_aLoad_e1 (by simp (disch := first | omega | decide) only [go_sem, f0, f1, f5, f6, f7, o5, cellsOf_step]; rfl) (by simp) rfl] | skip
              exact hK _
            apply aops_step0 rfl
            · intro K hK
              simp (disch := first | omega | decide) only [go_sem, f0, f1, f5, f6, f7, o5, act_store_t ti47, List.map, cellsOf_step]
              first | rw [mwp_store_g1 (by first | (rw [hG]; rfl) | rfl) (by simp) rfl rfl] | rw [mwp_store_c (by simp (disch := first | omega | decide) only [go_sem, f0, f1, f5, f6, f7, o5, cellsOf_step]; rfl) (by rfl) (by rfl) (by rfl) (by simp)] | rw [mwp_aStore_map (by simp (disch := first | omega | decide) only [go_sem, f0, f1, f5, f6, f7, o5, cellsOf_step]; rfl) (by first | omega | (simp; omega)) (fun _ => rfl) rfl rfl (fun _ => rfl)] | skip
              try simp only [setAt, cellsL, cellsOf_agg, cellsOf_base, List.map_cons, List.map_nil, List.set_cons_zero, List.set_cons_succ, Nat.reduceAdd, Nat.zero_add, hG]
              exact hK _
            refine aops_nil ?_
            refine AW.exit ?_
            refine AW.region (cfg := cfg) ?_
            iterate 3 (apply aops_step (by decide) rfl; · (intro K hK; simp (disch := first | omega | decide) only [go_sem, f0, f1, f5, f6, f7, o5, cellsOf_step]; exact hK _))
            refine aops_nil ?_
            refine ⟨_, _, ?_, ?_, ?_, ?_, ?_, ?_, ?_, ?_, ?_, rfl, ?_, ?_, ?_, ?_, ?_, ?_, ?_, ?_, ?_, ?_, hG⟩ <;> try simp (disch := first | omega | decide) only [go_sem, f0, f1, f5, f6, f7, o5, cellsOf_step]
            all_goals first | rfl | skip
            all_goals (simp only [okStep] at s1 s2 s3)
            all_goals (try simp only [ne_eq, Decidable.not_not] at hbt79)
            all_goals first | assumption | exact mo0 | exact mo1 | omega | (exfalso; simp [chk, mo0] at hbt79; done) | exact (s1 hbt79).1 | exact s2.1.1 | exact (s3 hbt79).1.1 | exact (s1 hbt79).2.1.trans mo1 | exact s2.1.2.1.trans mo1 | exact (s3 hbt79).1.2.1.trans mo1 | (intro _; omega) | (have z := s1 hbt79; intro _; omega) | (intro z; have z3 := mo3 (s2.2 z).1; have z4 := (s2.2 z).2; have z5 : ((⟨of, co, bo, ep, he, fu, ag, go⟩ : Near)).ag = ag := rfl; omega) | (intro z; have z3 := mo3 ((s3 hbt79).2 z).1; have z4 := ((s3 hbt79).2 z).2; have z5 : ((⟨of, co, bo, ep, he, fu, ag, go⟩ : Near)).ag = ag := rfl; omega) | trace_state
          case hf =>
            intro hb
            try simp only [Bool.or_eq_true, Bool.and_eq_true, Bool.or_eq_false_iff, Bool.and_eq_false_iff, decide_eq_true_eq, decide_eq_false_iff_not] at hb
            have hbt79 := hb
            refine AW.skip ?_
            refine AW.seq ?_
            refine AW.region (cfg := cfg) ?_
            iterate 2 (apply aops_step (by decide) rfl; · (intro K hK; simp (disch := first | omega | decide) only [go_sem, f0, f1, f5, f6, f7, o5, cellsOf_step]; exact hK _))
            apply aops_merge' (by decide) (by first | exact want_of (d := 82) rfl (by simp (disch := first | omega | decide) only [go_sem, f0, f1, f5, f6, f7, o5, opn_cond, cellsOf_step]; rfl) | exact want_of_cond (d := 82) rfl (by simp (disch := first | omega | decide) only [go_sem, f0, f1, f5, f6, f7, o5, opn_cond, cellsOf_step]; rfl))
            · intro hc K hK
              have hc2 := hc
              simp only [beq_iff_eq, decide_eq_true_eq, decide_eq_false_iff_not, Bool.or_eq_true, Bool.and_eq_true, Bool.or_eq_false_iff, Bool.and_eq_false_iff] at hc2
              simp (disch := first | omega | decide) only [go_sem, f0, f1, f5, f6, f7, o5, opn_cond, hc, if_true, act_fieldAddr_t fo47_5, cellsOf_step]
              first | rw [mwp_fieldAddr_b (by simp (disch := first | omega | decide) only [go_sem, f0, f1, f5, f6, f7, o5, opn_cond, hc, if_true, cellsOf_step]; rfl)] | skip
              exact hK _
            apply aops_merge' (by decide) (by first | exact want_of (d := 82) rfl (by simp (disch := first | omega | decide) only [go_sem, f0, f1, f5, f6, f7, o5, opn_cond, cellsOf_step]; rfl) | exact want_of_cond (d := 82) rfl (by simp (disch := first | omega | decide) only [go_sem, f0, f1, f5, f6, f7, o5, opn_cond, cellsOf_step]; rfl))
            · intro hc K hK
              have hc2 := hc
              simp only [beq_iff_eq, decide_eq_true_eq, decide_eq_false_iff_not, Bool.or_eq_true, Bool.and_eq_true, Bool.or_eq_false_iff, Bool.and_eq_false_iff] at hc2
              simp (disch := first | omega | decide) only [go_sem, f0, f1, f5, f6, f7, o5, opn_cond, hc, if_true, act_load_t ti4, cellsOf_step]
              first | rw [mwp_load_i1 (by rfl)] | rw [mwp_load_g1 (by first | (rw [hG]; rfl) | rfl) (by rfl)] | rw [mwp_load_gs (by first | (rw [hG]; rfl) | rfl) (by simp)] | rw [mwp_load_bs (by simp (disch := first | omega | decide) only [go_sem, f0, f1, f5, f6, f7, o5, opn_cond, hc, if_true, cellsOf_step]; rfl) (by simp [setAt])] | rw [mwp_load_b1 (by simp (disch := first | omega | decide) only [go_sem, f0, f1, f5, f6, f7, o5, opn_cond, hc, if_true, cellsOf_step]; rfl) (by rfl)] | rw [mwp_aLoad_map (by simp (disch := first | omega | decide) only [go_sem, f0, f1, f5, f6, f7, o5, opn_cond, hc, if_true, cellsOf_step]; rfl) (by first | omega | (simp; omega)) (fun _ => rfl)] | rw [mwp_aLoad_e1 (by simp (disch := first | omega | decide) only [go_sem, f0, f1, f5, f6, f7, o5, opn_cond, hc, if_true, cellsOf_step]; rfl) (by simp) rfl] | skip
              exact hK _
            apply aops_merge' (by decide) (by first | exact want_of (d := 82) rfl (by simp (disch := first | omega | decide) only [go_sem, f0, f1, f5, f6, f7, o5, opn_cond, cellsOf_step]; rfl) | exact want_of_cond (d := 82) rfl (by simp (disch := first | omega | decide) only [go_sem, f0, f1, f5, f6, f7, o5, opn_cond, cellsOf_step]; rfl))
            · intro hc K hK
              have hc2 := hc
              simp only [beq_iff_eq, decide_eq_true_eq, decide_eq_false_iff_not, Bool.or_eq_true, Bool.and_eq_true, Bool.or_eq_false_iff, Bool.and_eq_false_iff] at hc2
              simp (disch := first | omega | decide) only [go_sem, f0, f1, f5, f6, f7, o5, opn_cond, hc, if_true, cellsOf_step]
              exact hK _
            iterate 2 (apply aops_step (by decide) rfl; · (intro K hK; simp (disch := first | omega | decide) only [go_sem, f0, f1, f5, f6, f7, o5, cellsOf_step]; exact hK _))
            apply aops_merge' (by decide) (by first | exact want_of (d := 87) rfl (by simp (disch := first | omega | decide) only [go_sem, f0, f1, f5, f6, f7, o5, opn_cond, cellsOf_step]; rfl) | exact want_of_cond (d := 87) rfl (by simp (disch := first | omega | decide) only [go_sem, f0, f1, f5, f6, f7, o5, opn_cond, cellsOf_step]; rfl))
            · intro hc K hK
              have hc2 := hc
              simp only [beq_iff_eq, decide_eq_true_eq, decide_eq_false_iff_not, Bool.or_eq_true, Bool.and_eq_true, Bool.or_eq_false_iff, Bool.and_eq_false_iff] at hc2
              simp (disch := first | omega | decide) only [go_sem, f0, f1, f5, f6, f7, o5, opn_cond, hc, if_true, cellsOf_step]
              exact hK _
            apply aops_merge' (by decide) (by first | exact want_of (d := 87) rfl (by simp (disch := first | omega | decide) only [go_sem, f0, f1, f5, f6, f7, o5, opn_cond, cellsOf_step]; rfl) | exact want_of_cond (d := 87) rfl (by simp (disch := first | omega | decide) only [go_sem, f0, f1, f5, f6, f7, o5, opn_cond, cellsOf_step]; rfl))
            · intro hc K hK
              have hc2 := hc
              simp only [beq_iff_eq, decide_eq_true_eq, decide_eq_false_iff_not, Bool.or_eq_true, Bool.and_eq_true, Bool.or_eq_false_iff, Bool.and_eq_false_iff] at hc2
              simp (disch := first | omega | decide) only [go_sem, f0, f1, f5, f6, f7, o5, opn_cond, hc, if_true, cellsOf_step]
              exact hK _
            apply aops_merge' (by decide) (by first | exact want_of (d := 89) rfl (by simp (disch := first | omega | decide) only [go_sem, f0, f1, f5, f6, f7, o5, opn_cond, cellsOf_step]; rfl) | exact want_of_cond (d := 89) rfl (by simp (disch := first | omega | decide) only [go_sem, f0, f1, f5, f6, f7, o5, opn_cond, cellsOf_step]; rfl))
            · intro hc K hK
              have hc2 := hc
              simp only [beq_iff_eq, decide_eq_true_eq, decide_eq_false_iff_not, Bool.or_eq_true, Bool.and_eq_true, Bool.or_eq_false_iff, Bool.and_eq_false_iff] at hc2
              simp (disch := first | omega | decide) only [go_sem, f0, f1, f5, f6, f7, o5, opn_cond, hc, if_true, act_fieldAddr_t fo47_5, cellsOf_step]
              first | rw [mwp_fieldAddr_b (by simp (disch := first | omega | decide) only [go_sem, f0, f1, f5, f6, f7, o5, opn_cond, hc, if_true, cellsOf_step]; rfl)] | skip
              exact hK _
            apply aops_merge' (by decide) (by first | exact want_of (d := 89) rfl (by simp (disch := first | omega | decide) only [go_sem, f0, f1, f5, f6, f7, o5, opn_cond, cellsOf_step]; rfl) | exact want_of_cond (d := 89) rfl (by simp (disch := first | omega | decide) only [go_sem, f0, f1, f5, f6, f7, o5, opn_cond, cellsOf_step]; rfl))
            · intro hc K hK
              have hc2 := hc
              simp only [beq_iff_eq, decide_eq_true_eq, decide_eq_false_iff_not, Bool.or_eq_true, Bool.and_eq_true, Bool.or_eq_false_iff, Bool.and_eq_false_iff] at hc2
              simp (disch := first | omega | decide) only [go_sem, f0, f1, f5, f6, f7, o5, opn_cond, hc, if_true, act_load_t ti4, cellsOf_step]
              first | rw [mwp_load_i1 (by rfl)] | rw [mwp_load_g1 (by first | (rw [hG]; rfl) | rfl) (by rfl)] | rw [mwp_load_gs (by first | (rw [hG]; rfl) | rfl) (by simp)] | rw [mwp_load_bs (by simp (disch := first | omega | decide) only [go_sem, f0, f1, f5, f6, f7, o5, opn_cond, hc, if_true, cellsOf_step]; rfl) (by simp [setAt])] | rw [mwp_load_b1 (by simp (disch := first | omega | decide) only [go_sem, f0, f1, f5, f6, f7, o5, opn_cond, hc, if_true, cellsOf_step]; rfl) (by rfl)] | rw [mwp_aLoad_map (by simp (disch := first | omega | decide) only [go_sem, f0, f1, f5, f6, f7, o5, opn_cond, hc, if_true, cellsOf_step]; rfl) (by first | omega | (simp; omega)) (fun _ => rfl)] | rw [mwp_aLoad_e1 (by simp (disch := first | omega | decide) only [go_sem, f0, f1, f5, f6, f7, o5, opn_cond, hc, if_true, cellsOf_step]; rfl) (by simp) rfl] | skip
              exact hK _
            apply aops_merge' (by decide) (by first | exact want_of (d := 89) rfl (by simp (disch := first | omega | decide) only [go_sem, f0, f1, f5, f6, f7, o5, opn_cond, cellsOf_step]; rfl) | exact want_of_cond (d := 89) rfl (by simp (disch := first | omega | decide) only [go_sem, f0, f1, f5, f6, f7, o5, opn_cond, cellsOf_step]; rfl))
            · intro hc K hK
              have hc2 := hc
              simp only [beq_iff_eq, decide_eq_true_eq, decide_eq_false_iff_not, Bool.or_eq_true, Bool.and_eq_true, Bool.or_eq_false_iff, Bool.and_eq_false_iff] at hc2
              simp (disch := first | omega | decide) only [go_sem, f0, f1, f5, f6, f7, o5, opn_cond, hc, if_true, cellsOf_step]
              exact hK _
            apply aops_merge' (by decide) (by first | exact want_of (d := 87) rfl (by simp (disch := first | omega | decide) only [go_sem, f0, f1, f5, f6, f7, o5, opn_cond, cellsOf_step]; rfl) | exact want_of_cond (d := 87) rfl (by simp (disch := first | omega | decide) only [go_sem, f0, f1, f5, f6, f7, o5, opn_cond, cellsOf_step]; rfl))
            · intro hc K hK
              have hc2 := hc
              simp only [beq_iff_eq, decide_eq_true_eq, decide_eq_false_iff_not, Bool.or_eq_true, Bool.and_eq_true, Bool.or_eq_false_iff, Bool.and_eq_false_iff] at hc2
              simp (disch := first | omega | decide) only [go_sem, f0, f1, f5, f6, f7, o5, opn_cond, hc, if_true, cellsOf_step]
              exact hK _
            iterate 2 (apply aops_step (by decide) rfl; · (intro K hK; simp (disch := first | omega | decide) only [go_sem, f0, f1, f5, f6, f7, o5, cellsOf_step]; exact hK _))
            apply aops_merge' (by decide) (by first | exact want_of (d := 95) rfl (by simp (disch := first | omega | decide) only [go_sem, f0, f1, f5, f6, f7, o5, opn_cond, cellsOf_step]; rfl) | exact want_of_cond (d := 95) rfl (by simp (disch := first | omega | decide) only [go_sem, f0, f1, f5, f6, f7, o5, opn_cond, cellsOf_step]; rfl))
            · intro hc K hK
              have hc2 := hc
              simp only [beq_iff_eq, decide_eq_true_eq, decide_eq_false_iff_not, Bool.or_eq_true, Bool.and_eq_true, Bool.or_eq_false_iff, Bool.and_eq_false_iff] at hc2
              simp (disch := first | omega | decide) only [go_sem, f0, f1, f5, f6, f7, o5, opn_cond, hc, if_true, act_fieldAddr_t fo47_5, cellsOf_step]
              first | rw [mwp_fieldAddr_b (by simp (disch := first | omega | decide) only [go_sem, f0, f1, f5, f6, f7, o5, opn_cond, hc, if_true, cellsOf_step]; rfl)] | skip
              exact hK _
            apply aops_merge' (by decide) (by first | exact want_of (d := 95) rfl (by simp (disch := first | omega | decide) only [go_sem, f0, f1, f5, f6, f7, o5, opn_cond, cellsOf_step]; rfl) | exact want_of_cond (d := 95) rfl (by simp (disch := first | omega | decide) only [go_sem, f0, f1, f5, f6, f7, o5, opn_cond, cellsOf_step]; rfl))
            · intro hc K hK
              have hc2 := hc
              simp only [beq_iff_eq, decide_eq_true_eq, decide_eq_false_iff_not, Bool.or_eq_true, Bool.and_eq_true, Bool.or_eq_false_iff, Bool.and_eq_false_iff] at hc2
              simp (disch := first | omega | decide) only [go_sem, f0, f1, f5, f6, f7, o5, opn_cond, hc, if_true, act_load_t ti4, cellsOf_step]
              first | rw [mwp_load_i1 (by rfl)] | rw [mwp_load_g1 (by first | (rw [hG]; rfl) | rfl) (by rfl)] | rw [mwp_load_gs (by first | (rw [hG]; rfl) | rfl) (by simp)] | rw [mwp_load_bs (by simp (disch := first | omega | decide) only [go_sem, f0, f1, f5, f6, f7, o5, opn_cond, hc, if_true, cellsOf_step]; rfl) (by simp [setAt])] | rw [mwp_load_b1 (by simp (disch := first | omega | decide) only [go_sem, f0, f1, f5, f6, f7, o5, opn_cond, hc, if_true, cellsOf_step]; rfl) (by rfl)] | rw [mwp_aLoad_map (by simp (disch := first | omega | decide) only [go_sem, f0, f1, f5, f6, f7, o5, opn_cond, hc, if_true, cellsOf_step]; rfl) (by first | omega | (simp; omega)) (fun _ => rfl)] | rw [mwp_aLoad_e1 (by simp (disch := first | omega | decide) only [go_sem, f0, f1, f5, f6, f7, o5, opn_cond, hc, if_true, cellsOf_step]; rfl) (by simp) rfl] | skip
              exact hK _
            apply aops_merge' (by decide) (by first | exact want_of (d := 95) rfl (by simp (disch := first | omega | decide) only [go_sem, f0, f1, f5, f6, f7, o5, opn_cond, cellsOf_step]; rfl) | exact want_of_cond (d := 95) rfl (by simp (disch := first | omega | decide) only [go_sem, f0, f1, f5, f6, f7, o5, opn_cond, cellsOf_step]; rfl))
            · intro hc K hK
              have hc2 := hc
              simp only [beq_iff_eq, decide_eq_true_eq, decide_eq_false_iff_not, Bool.or_eq_true, Bool.and_eq_true, Bool.or_eq_false_iff, Bool.and_eq_false_iff] at hc2
              simp (disch := first | omega | decide) only [go_sem, f0, f1, f5, f6, f7, o5, opn_cond, hc, if_true, act_fieldAddr_t fo47_5, cellsOf_step]
              first | rw [mwp_fieldAddr_b (by simp (disch := first | omega | decide) only [go_sem, f0, f1, f5, f6, f7, o5, opn_cond, hc, if_true, cellsOf_step]; rfl)] | skip
              exact hK _
            apply aops_merge' (by decide) (by first | exact want_of (d := 95) rfl (by simp (disch := first | omega | decide) only [go_sem, f0, f1, f5, f6, f7, o5, opn_cond, cellsOf_step]; rfl) | exact want_of_cond (d := 95) rfl (by simp (disch := first | omega | decide) only [go_sem, f0, f1, f5, f6, f7, o5, opn_cond, cellsOf_step]; rfl))
            · intro hc K hK
              have hc2 := hc
              simp only [beq_iff_eq, decide_eq_true_eq, decide_eq_false_iff_not, Bool.or_eq_true, Bool.and_eq_true, Bool.or_eq_false_iff, Bool.and_eq_false_iff] at hc2
              simp (disch := first | omega | decide) only [go_sem, f0, f1, f5, f6, f7, o5, opn_cond, hc, if_true, act_load_t ti4, cellsOf_step]
              first | rw [mwp_load_i1 (by rfl)] | rw [mwp_load_g1 (by first | (rw [hG]; rfl) | rfl) (by rfl)] | rw [mwp_load_gs (by first | (rw [hG]; rfl) | rfl) (by simp)] | rw [mwp_load_bs (by simp (disch := first | omega | decide) only [go_sem, f0, f1, f5, f6, f7, o5, opn_cond, hc, if_true, cellsOf_step]; rfl) (by simp [setAt])] | rw [mwp_load_b1 (by simp (disch := first | omega | decide) only [go_sem, f0, f1, f5, f6, f7, o5, opn_cond, hc, if_true, cellsOf_step]; rfl) (by rfl)] | rw [mwp_aLoad_map (by simp (disch := first | omega | decide) only [go_sem, f0, f1, f5, f6, f7, o5, opn_cond, hc, if_true, cellsOf_step]; rfl) (by first | omega | (simp; omega)) (fun _ => rfl)] | rw [mwp_aLoad_e1 (by simp (disch := first | omega | decide) only [go_sem, f0, f1, f5, f6, f7, o5, opn_cond, hc, if_true, cellsOf_step]; rfl) (by simp) rfl] | skip
              exact hK _
            apply aops_merge' (by decide) (by first | exact want_of (d := 95) rfl (by simp (disch := first | omega | decide) only [go_sem, f0, f1, f5, f6, f7, o5, opn_cond, cellsOf_step]; rfl) | exact want_of_cond (d := 95) rfl (by simp (disch := first | omega | decide) only [go_sem, f0, f1, f5, f6, f7, o5, opn_cond, cellsOf_step]; rfl))
            · intro hc K hK
              have hc2 := hc
              simp only [beq_iff_eq, decide_eq_true_eq, decide_eq_false_iff_not, Bool.or_eq_true, Bool.and_eq_true, Bool.or_eq_false_iff, Bool.and_eq_false_iff] at hc2
              simp (disch := first | omega | decide) only [go_sem, f0, f1, f5, f6, f7, o5, opn_cond, hc, if_true, cellsOf_step]
              exact hK _
            apply aops_merge' (by decide) (by first | exact want_of (d := 100) rfl (by simp (disch := first | omega | decide) only [go_sem, f0, f1, f5, f6, f7, o5, opn_cond, cellsOf_step]; rfl) | exact want_of_cond (d := 100) rfl (by simp (disch := first | omega | decide) only [go_sem, f0, f1, f5, f6, f7, o5, opn_cond, cellsOf_step]; rfl))
            · intro hc K hK
              have hc2 := hc
              simp only [beq_iff_eq, decide_eq_true_eq, decide_eq_false_iff_not, Bool.or_eq_true, Bool.and_eq_true, Bool.or_eq_false_iff, Bool.and_eq_false_iff] at hc2
              simp (disch := first | omega | decide) only [go_sem, f0, f1, f5, f6, f7, o5, opn_cond, hc, if_true, cellsOf_step]
              exact hK _
            apply aops_merge' (by decide) (by first | exact want_of (d := 100) rfl (by simp (disch := first | omega | decide) only [go_sem, f0, f1, f5, f6, f7, o5, opn_cond, cellsOf_step]; rfl) | exact want_of_cond (d := 100) rfl (by simp (disch := first | omega | decide) only [go_sem, f0, f1, f5, f6, f7, o5, opn_cond, cellsOf_step]; rfl))
            · intro hc K hK
              have hc2 := hc
              simp only [beq_iff_eq, decide_eq_true_eq, decide_eq_false_iff_not, Bool.or_eq_true, Bool.and_eq_true, Bool.or_eq_false_iff, Bool.and_eq_false_iff] at hc2
              simp (disch := first | omega | decide) only [go_sem, f0, f1, f5, f6, f7, o5, opn_cond, hc, if_true, cellsOf_step]
              exact hK _
            apply aops_merge' (by decide) (by first | exact want_of (d := 95) rfl (by simp (disch := first | omega | decide) only [go_sem, f0, f1, f5, f6, f7, o5, opn_cond, cellsOf_step]; rfl) | exact want_of_cond (d := 95) rfl (by simp (disch := first | omega | decide) only [go_sem, f0, f1, f5, f6, f7, o5, opn_cond, cellsOf_step]; rfl))
            · intro hc K hK
              have hc2 := hc
              simp only [beq_iff_eq, decide_eq_true_eq, decide_eq_false_iff_not, Bool.or_eq_true, Bool.and_eq_true, Bool.or_eq_false_iff, Bool.and_eq_false_iff] at hc2
              simp (disch := first | omega | decide) only [go_sem, f0, f1, f5, f6, f7, o5, opn_cond, hc, if_true, cellsOf_step]
              exact hK _
            apply aops_merge' (by decide) (by first | exact want_of (d := 95) rfl (by simp (disch := first | omega | decide) only [go_sem, f0, f1, f5, f6, f7, o5, opn_cond, cellsOf_step]; rfl) | exact want_of_cond (d := 95) rfl (by simp (disch := first | omega | decide) only [go_sem, f0, f1, f5, f6, f7, o5, opn_cond, cellsOf_step]; rfl))
            · intro hc K hK
              have hc2 := hc
              simp only [beq_iff_eq, decide_eq_true_eq, decide_eq_false_iff_not, Bool.or_eq_true, Bool.and_eq_true, Bool.or_eq_false_iff, Bool.and_eq_false_iff] at hc2
              simp (disch := first | omega | decide) only [go_sem, f0, f1, f5, f6, f7, o5, opn_cond, hc, if_true, cellsOf_step]
              exact hK _
            apply aops_merge' (by decide) (by first | exact want_of (d := 104) rfl (by simp (disch := first | omega | decide) only [go_sem, f0, f1, f5, f6, f7, o5, opn_cond, cellsOf_step]; rfl) | exact want_of_cond (d := 104) rfl (by simp (disch := first | omega | decide) only [go_sem, f0, f1, f5, f6, f7, o5, opn_cond, cellsOf_step]; rfl))
            · intro hc K hK
              have hc2 := hc
              simp only [beq_iff_eq, decide_eq_true_eq, decide_eq_false_iff_not, Bool.or_eq_true, Bool.and_eq_true, Bool.or_eq_false_iff, Bool.and_eq_false_iff] at hc2
              simp (disch := first | omega | decide) only [go_sem, f0, f1, f5, f6, f7, o5, opn_cond, hc, if_true, cellsOf_step]
              exact hK _
            apply aops_merge' (by decide) (by first | exact want_of (d := 95) rfl (by simp (disch := first | omega | decide) only [go_sem, f0, f1, f5, f6, f7, o5, opn_cond, cellsOf_step]; rfl) | exact want_of_cond (d := 95) rfl (by simp (disch := first | omega | decide) only [go_sem, f0, f1, f5, f6, f7, o5, opn_cond, cellsOf_step]; rfl))
            · intro hc K hK
              have hc2 := hc
              simp only [beq_iff_eq, decide_eq_true_eq, decide_eq_false_iff_not, Bool.or_eq_true, Bool.and_eq_true, Bool.or_eq_false_iff, Bool.and_eq_false_iff] at hc2
              simp (disch := first | omega | decide) only [go_sem, f0, f1, f5, f6, f7, o5, opn_cond, hc, if_true, cellsOf_step]
              exact hK _
            apply aops_merge' (by decide) (by first | exact want_of (d := 95) rfl (by simp (disch := first | omega | decide) only [go_sem, f0, f1, f5, f6, f7, o5, opn_cond, cellsOf_step]; rfl) | exact want_of_cond (d := 95) rfl (by simp (disch := first | omega | decide) only [go_sem, f0, f1, f5, f6, f7, o5, opn_cond, cellsOf_step]; rfl))
            · intro hc K hK
              have hc2 := hc
              simp only [beq_iff_eq, decide_eq_true_eq, decide_eq_false_iff_not, Bool.or_eq_true, Bool.and_eq_true, Bool.or_eq_false_iff, Bool.and_eq_false_iff] at hc2
              simp (disch := first | omega | decide) only [go_sem, f0, f1, f5, f6, f7, o5, opn_cond, hc, if_true, bin_neq_b u4, cellsOf_step]
              exact hK _
            iterate 2 (apply aops_step (by decide) rfl; · (intro K hK; simp (disch := first | omega | decide) only [go_sem, f0, f1, f5, f6, f7, o5, cellsOf_step]; exact hK _))
            apply aops_merge' (by decide) (by first | exact want_of (d := 109) rfl (by simp (disch := first | omega | decide) only [go_sem, f0, f1, f5, f6, f7, o5, opn_cond, cellsOf_step]; rfl) | exact want_of_cond (d := 109) rfl (by simp (disch := first | omega | decide) only [go_sem, f0, f1, f5, f6, f7, o5, opn_cond, cellsOf_step]; rfl))
            · intro hc K hK
              have hc2 := hc
              simp only [beq_iff_eq, decide_eq_true_eq, decide_eq_false_iff_not, Bool.or_eq_true, Bool.and_eq_true, Bool.or_eq_false_iff, Bool.and_eq_false_iff] at hc2
              simp (disch := first | omega | decide) only [go_sem, f0, f1, f5, f6, f7, o5, opn_cond, hc, if_true, act_fieldAddr_t fo47_2, cellsOf_step]
              first | rw [mwp_fieldAddr_b (by simp (disch := first | omega | decide) only [go_sem, f0, f1, f5, f6, f7, o5, opn_cond, hc, if_true, cellsOf_step]; rfl)] | skip
              exact hK _
            apply aops_merge' (by decide) (by first | exact want_of (d := 109) rfl (by simp (disch := first | omega | decide) only [go_sem, f0, f1, f5, f6, f7, o5, opn_cond, cellsOf_step]; rfl) | exact want_of_cond (d := 109) rfl (by simp (disch := first | omega | decide) only [go_sem, f0, f1, f5, f6, f7, o5, opn_cond, cellsOf_step]; rfl))
            · intro hc K hK
              have hc2 := hc
              simp only [beq_iff_eq, decide_eq_true_eq, decide_eq_false_iff_not, Bool.or_eq_true, Bool.and_eq_true, Bool.or_eq_false_iff, Bool.and_eq_false_iff] at hc2
              simp (disch := first | omega | decide) only [go_sem, f0, f1, f5, f6, f7, o5, opn_cond, hc, if_true, act_load_t ti3, cellsOf_step]
              first | rw [mwp_load_i1 (by rfl)] | rw [mwp_load_g1 (by first | (rw [hG]; rfl) | rfl) (by rfl)] | rw [mwp_load_gs (by first | (rw [hG]; rfl) | rfl) (by simp)] | rw [mwp_load_bs (by simp (disch := first | omega | decide) only [go_sem, f0, f1, f5, f6, f7, o5, opn_cond, hc, if_true, cellsOf_step]; rfl) (by simp [setAt])] | rw [mwp_load_b1 (by simp (disch := first | omega | decide) only [go_sem, f0, f1, f5, f6, f7, o5, opn_cond, hc, if_true, cellsOf_step]; rfl) (by rfl)] | rw [mwp_aLoad_map (by simp (disch := first | omega | decide) only [go_sem, f0, f1, f5, f6, f7, o5, opn_cond, hc, if_true, cellsOf_step]; rfl) (by first | omega | (simp; omega)) (fun _ => rfl)] | rw [mwp_aLoad_e1 (by simp (disch := first | omega | decide) only [go_sem, f0, f1, f5, f6, f7, o5, opn_cond, hc, if_true, cellsOf_step]; rfl) (by simp) rfl] | skip
              exact hK _
            apply aops_merge' (by decide) (by first | exact want_of (d := 109) rfl (by simp (disch := first | omega | decide) only [go_sem, f0, f1, f5, f6, f7, o5, opn_cond, cellsOf_step]; rfl) | exact want_of_cond (d := 109) rfl (by simp (disch := first | omega | decide) only [go_sem, f0, f1, f5, f6, f7, o5, opn_cond, cellsOf_step]; rfl))
            · intro hc K hK
              have hc2 := hc
              simp only [beq_iff_eq, decide_eq_true_eq, decide_eq_false_iff_not, Bool.or_eq_true, Bool.and_eq_true, Bool.or_eq_false_iff, Bool.and_eq_false_iff] at hc2
              simp (disch := first | omega | decide) only [go_sem, f0, f1, f5, f6, f7, o5, opn_cond, hc, if_true, act_fieldAddr_t fo47_2, cellsOf_step]
              first | rw [mwp_fieldAddr_b (by simp (disch := first | omega | decide) only [go_sem, f0, f1, f5, f6, f7, o5, opn_cond, hc, if_true, cellsOf_step]; rfl)] | skip
              exact hK _
            apply aops_merge' (by decide) (by first | exact want_of (d := 109) rfl (by simp (disch := first | omega | decide) only [go_sem, f0, f1, f5, f6, f7, o5, opn_cond, cellsOf_step]; rfl) | exact want_of_cond (d := 109) rfl (by simp (disch := first | omega | decide) only [go_sem, f0, f1, f5, f6, f7, o5, opn_cond, cellsOf_step]; rfl))
            · intro hc K hK
              have hc2 := hc
              simp only [beq_iff_eq, decide_eq_true_eq, decide_eq_false_iff_not, Bool.or_eq_true, Bool.and_eq_true, Bool.or_eq_false_iff, Bool.and_eq_false_iff] at hc2
              simp (disch := first | omega | decide) only [go_sem, f0, f1, f5, f6, f7, o5, opn_cond, hc, if_true, act_load_t ti3, cellsOf_step]
              first | rw [mwp_load_i1 (by rfl)] | rw [mwp_load_g1 (by first | (rw [hG]; rfl) | rfl) (by rfl)] | rw [mwp_load_gs (by first | (rw [hG]; rfl) | rfl) (by simp)] | rw [mwp_load_bs (by simp (disch := first | omega | decide) only [go_sem, f0, f1, f5, f6, f7, o5, opn_cond, hc, if_true, cellsOf_step]; rfl) (by simp [setAt])] | rw [mwp_load_b1 (by simp (disch := first | omega | decide) only [go_sem, f0, f1, f5, f6, f7, o5, opn_cond, hc, if_true, cellsOf_step]; rfl) (by rfl)] | rw [mwp_aLoad_map (by simp (disch := first | omega | decide) only [go_sem, f0, f1, f5, f6, f7, o5, opn_cond, hc, if_true, cellsOf_step]; rfl) (by first | omega | (simp; omega)) (fun _ => rfl)] | rw [mwp_aLoad_e1 (by simp (disch := first | omega | decide) only [go_sem, f0, f1, f5, f6, f7, o5, opn_cond, hc, if_true, cellsOf_step]; rfl) (by simp) rfl] | skip
              exact hK _
            apply aops_merge' (by decide) (by first | exact want_of (d := 109) rfl (by simp (disch := first | omega | decide) only [go_sem, f0, f1, f5, f6, f7, o5, opn_cond, cellsOf_step]; rfl) | exact want_of_cond (d := 109) rfl (by simp (disch := first | omega | decide) only [go_sem, f0, f1, f5, f6, f7, o5, opn_cond, cellsOf_step]; rfl))
            · intro hc K hK
              have hc2 := hc
              simp only [beq_iff_eq, decide_eq_true_eq, decide_eq_false_iff_not, Bool.or_eq_true, Bool.and_eq_true, Bool.or_eq_false_iff, Bool.and_eq_false_iff] at hc2
              simp (disch := first | omega | decide) only [go_sem, f0, f1, f5, f6, f7, o5, opn_cond, hc, if_true, cellsOf_step]
              exact hK _
            iterate 2 (apply aops_step (by decide) rfl; · (intro K hK; simp (disch := first | omega | decide) only [go_sem, f0, f1, f5, f6, f7, o5, cellsOf_step]; exact hK _))
            apply aops_merge' (by decide) (by first | exact want_of (d := 116) rfl (by simp (disch := first | omega | decide) only [go_sem, f0, f1, f5, f6, f7, o5, opn_cond, cellsOf_step]; rfl) | exact want_of_cond (d := 116) rfl (by simp (disch := first | omega | decide) only [go_sem, f0, f1, f5, f6, f7, o5, opn_cond, cellsOf_step]; rfl))
            · intro hc K hK
              have hc2 := hc
              simp only [beq_iff_eq, decide_eq_true_eq, decide_eq_false_iff_not, Bool.or_eq_true, Bool.and_eq_true, Bool.or_eq_false_iff, Bool.and_eq_false_iff] at hc2
              simp (disch := first | omega | decide) only [go_sem, f0, f1, f5, f6, f7, o5, opn_cond, hc, if_true, cellsOf_step]
              exact hK _
            apply aops_merge' (by decide) (by first | exact want_of (d := 116) rfl (by simp (disch := first | omega | decide) only [go_sem, f0, f1, f5, f6, f7, o5, opn_cond, cellsOf_step]; rfl) | exact want_of_cond (d := 116) rfl (by simp (disch := first | omega | decide) only [go_sem, f0, f1, f5, f6, f7, o5, opn_cond, cellsOf_step]; rfl))
            · intro hc K hK
              have hc2 := hc
              simp only [beq_iff_eq, decide_eq_true_eq, decide_eq_false_iff_not, Bool.or_eq_true, Bool.and_eq_true, Bool.or_eq_false_iff, Bool.and_eq_false_iff] at hc2
              simp (disch := first | omega | decide) only [go_sem, f0, f1, f5, f6, f7, o5, opn_cond, hc, if_true, cellsOf_step]
              exact hK _
            apply aops_merge' (by decide) (by first | exact want_of (d := 116) rfl (by simp (disch := first | omega | decide) only [go_sem, f0, f1, f5, f6, f7, o5, opn_cond, cellsOf_step]; rfl) | exact want_of_cond (d := 116) rfl (by simp (disch := first | omega | decide) only [go_sem, f0, f1, f5, f6, f7, o5, opn_cond, cellsOf_step]; rfl))
            · intro hc K hK
              have hc2 := hc
              simp only [beq_iff_eq, decide_eq_true_eq, decide_eq_false_iff_not, Bool.or_eq_true, Bool.and_eq_true, Bool.or_eq_false_iff, Bool.and_eq_false_iff] at hc2
              simp (disch := first | omega | decide) only [go_sem, f0, f1, f5, f6, f7, o5, opn_cond, hc, if_true, cellsOf_step]
              exact hK _
            apply aops_merge' (by decide) (by first | exact want_of (d := 119) rfl (by simp (disch := first | omega | decide) only [go_sem, f0, f1, f5, f6, f7, o5, opn_cond, cellsOf_step]; rfl) | exact want_of_cond (d := 119) rfl (by simp (disch := first | omega | decide) only [go_sem, f0, f1, f5, f6, f7, o5, opn_cond, cellsOf_step]; rfl))
            · intro hc K hK
              have hc2 := hc
              simp only [beq_iff_eq, decide_eq_true_eq, decide_eq_false_iff_not, Bool.or_eq_true, Bool.and_eq_true, Bool.or_eq_false_iff, Bool.and_eq_false_iff] at hc2
              simp (disch := first | omega | decide) only [go_sem, f0, f1, f5, f6, f7, o5, opn_cond, hc, if_true, act_fieldAddr_t fo47_5, cellsOf_step]
              first | rw [mwp_fieldAddr_b (by simp (disch := first | omega | decide) only [go_sem, f0, f1, f5, f6, f7, o5, opn_cond, hc, if_true, cellsOf_step]; rfl)] | skip
              exact hK _
            apply aops_merge' (by decide) (by first | exact want_of (d := 119) rfl (by simp (disch := first | omega | decide) only [go_sem, f0, f1, f5, f6, f7, o5, opn_cond, cellsOf_step]; rfl) | exact want_of_cond (d := 119) rfl (by simp (disch := first | omega | decide) only [go_sem, f0, f1, f5, f6, f7, o5, opn_cond, cellsOf_step]; rfl))
            · intro hc K hK
              have hc2 := hc
              simp only [beq_iff_eq, decide_eq_true_eq, decide_eq_false_iff_not, Bool.or_eq_true, Bool.and_eq_true, Bool.or_eq_false_iff, Bool.and_eq_false_iff] at hc2
              simp (disch := first | omega | decide) only [go_sem, f0, f1, f5, f6, f7, o5, opn_cond, hc, if_true, act_load_t ti4, cellsOf_step]
              first | rw [mwp_load_i1 (by rfl)] | rw [mwp_load_g1 (by first | (rw [hG]; rfl) | rfl) (by rfl)] | rw [mwp_load_gs (by first | (rw [hG]; rfl) | rfl) (by simp)] | rw [mwp_load_bs (by simp (disch := first | omega | decide) only [go_sem, f0, f1, f5, f6, f7, o5, opn_cond, hc, if_true, cellsOf_step]; rfl) (by simp [setAt])] | rw [mwp_load_b1 (by simp (disch := first | omega | decide) only [go_sem, f0, f1, f5, f6, f7, o5, opn_cond, hc, if_true, cellsOf_step]; rfl) (by rfl)] | rw [mwp_aLoad_map (by simp (disch := first | omega | decide) only [go_sem, f0, f1, f5, f6, f7, o5, opn_cond, hc, if_true, cellsOf_step]; rfl) (by first | omega | (simp; omega)) (fun _ => rfl)] | rw [mwp_aLoad_e1 (by simp (disch := first | omega | decide) only [go_sem, f0, f1, f5, f6, f7, o5, opn_cond, hc, if_true, cellsOf_step]; rfl) (by simp) rfl] | skip
              exact hK _
            apply aops_merge' (by decide) (by first | exact want_of (d := 116) rfl (by simp (disch := first | omega | decide) only [go_sem, f0, f1, f5, f6, f7, o5, opn_cond, cellsOf_step]; rfl) | exact want_of_cond (d := 116) rfl (by simp (disch := first | omega | decide) only [go_sem, f0, f1, f5, f6, f7, o5, opn_cond, cellsOf_step]; rfl))
            · intro hc K hK
              have hc2 := hc
              simp only [beq_iff_eq, decide_eq_true_eq, decide_eq_false_iff_not, Bool.or_eq_true, Bool.and_eq_true, Bool.or_eq_false_iff, Bool.and_eq_false_iff] at hc2
              simp (disch := first | omega | decide) only [go_sem, f0, f1, f5, f6, f7, o5, opn_cond, hc, if_true, cellsOf_step]
              exact hK _
            iterate 2 (apply aops_step (by decide) rfl; · (intro K hK; simp (disch := first | omega | decide) only [go_sem, f0, f1, f5, f6, f7, o5, cellsOf_step]; exact hK _))
            apply aops_merge' (by decide) (by first | exact want_of (d := 124) rfl (by simp (disch := first | omega | decide) only [go_sem, f0, f1, f5, f6, f7, o5, opn_cond, cellsOf_step]; rfl) | exact want_of_cond (d := 124) rfl (by simp (disch := first | omega | decide) only [go_sem, f0, f1, f5, f6, f7, o5, opn_cond, cellsOf_step]; rfl))
            · intro hc K hK
              have hc2 := hc
              simp only [beq_iff_eq, decide_eq_true_eq, decide_eq_false_iff_not, Bool.or_eq_true, Bool.and_eq_true, Bool.or_eq_false_iff, Bool.and_eq_false_iff] at hc2
              simp (disch := first | omega | decide) only [go_sem, f0, f1, f5, f6, f7, o5, opn_cond, hc, if_true, act_fieldAddr_t fo47_0, cellsOf_step]
              first | rw [mwp_fieldAddr_b (by simp (disch := first | omega | decide) only [go_sem, f0, f1, f5, f6, f7, o5, opn_cond, hc, if_true, cellsOf_step]; rfl)] | skip
              exact hK _
            apply aops_merge' (by decide) (by first | exact want_of (d := 124) rfl (by simp (disch := first | omega | decide) only [go_sem, f0, f1, f5, f6, f7, o5, opn_cond, cellsOf_step]; rfl) | exact want_of_cond (d := 124) rfl (by simp (disch := first | omega | decide) only [go_sem, f0, f1, f5, f6, f7, o5, opn_cond, cellsOf_step]; rfl))
            · intro hc K hK
              have hc2 := hc
              simp only [beq_iff_eq, decide_eq_true_eq, decide_eq_false_iff_not, Bool.or_eq_true, Bool.and_eq_true, Bool.or_eq_false_iff, Bool.and_eq_false_iff] at hc2
              simp (disch := first | omega | decide) only [go_sem, f0, f1, f5, f6, f7, o5, opn_cond, hc, if_true, act_load_t ti3, cellsOf_step]
              first | rw [mwp_load_i1 (by rfl)] | rw [mwp_load_g1 (by first | (rw [hG]; rfl) | rfl) (by rfl)] | rw [mwp_load_gs (by first | (rw [hG]; rfl) | rfl) (by simp)] | rw [mwp_load_bs (by simp (disch := first | omega | decide) only [go_sem, f0, f1, f5, f6, f7, o5, opn_cond, hc, if_true, cellsOf_step]; rfl) (by simp [setAt])] | rw [mwp_load_b1 (by simp (disch := first | omega | decide) only [go_sem, f0, f1, f5, f6, f7, o5, opn_cond, hc, if_true, cellsOf_step]; rfl) (by rfl)] | rw [mwp_aLoad_map (by simp (disch := first | omega | decide) only [go_sem, f0, f1, f5, f6, f7, o5, opn_cond, hc, if_true, cellsOf_step]; rfl) (by first | omega | (simp; omega)) (fun _ => rfl)] | rw [mwp_aLoad_e1 (by simp (disch := first | omega | decide) only [go_sem, f0, f1, f5, f6, f7, o5, opn_cond, hc, if_true, cellsOf_step]; rfl) (by simp) rfl] | skip
              exact hK _
            apply aops_merge' (by decide) (by first | exact want_of (d := 124) rfl (by simp (disch := first | omega | decide) only [go_sem, f0, f1, f5, f6, f7, o5, opn_cond, cellsOf_step]; rfl) | exact want_of_cond (d := 124) rfl (by simp (disch := first | omega | decide) only [go_sem, f0, f1, f5, f6, f7, o5, opn_cond, cellsOf_step]; rfl))
            · intro hc K hK
              have hc2 := hc
              simp only [beq_iff_eq, decide_eq_true_eq, decide_eq_false_iff_not, Bool.or_eq_true, Bool.and_eq_true, Bool.or_eq_false_iff, Bool.and_eq_false_iff] at hc2
              simp (disch := first | omega | decide) only [go_sem, f0, f1, f5, f6, f7, o5, opn_cond, hc, if_true, cellsOf_step]
              exact hK _
            apply aops_merge' (by decide) (by first | exact want_of (d := 124) rfl (by simp (disch := first | omega | decide) only [go_sem, f0, f1, f5, f6, f7, o5, opn_cond, cellsOf_step]; rfl) | exact want_of_cond (d := 124) rfl (by simp (disch := first | omega | decide) only [go_sem, f0, f1, f5, f6, f7, o5, opn_cond, cellsOf_step]; rfl))
            · intro hc K hK
              have hc2 := hc
              simp only [beq_iff_eq, decide_eq_true_eq, decide_eq_false_iff_not, Bool.or_eq_true, Bool.and_eq_true, Bool.or_eq_false_iff, Bool.and_eq_false_iff] at hc2
              simp (disch := first | omega | decide) only [go_sem, f0, f1, f5, f6, f7, o5, opn_cond, hc, if_true, cellsOf_step]
              exact hK _
            iterate 1 (apply aops_step (by decide) rfl; · (intro K hK; simp (disch := first | omega | decide) only [go_sem, f0, f1, f5, f6, f7, o5, cellsOf_step]; exact hK _))
            refine aops_nil ?_
            apply AW.cond
            · simp (disch := first | omega | decide) only [go_sem, f0, f1, f5, f6, f7, o5, cellsOf_step]; rfl
            case ht =>
              intro hb
              try simp only [Bool.or_eq_true, Bool.and_eq_true, Bool.or_eq_false_iff, Bool.and_eq_false_iff, decide_eq_true_eq, decide_eq_false_iff_not] at hb
              have hbt129 := hb
              refine AW.seq ?_
              refine AW.region (cfg := cfg) ?_
              iterate 1 (apply aops_step (by decide) rfl; · (intro K hK; simp (disch := first | omega | decide) only [go_sem, f0, f1, f5, f6, f7, o5, cellsOf_step]; exact hK _))
              refine aops_nil ?_
              refine AW.ret ?_
              refine ⟨.inr rfl, ?_⟩
              refine leaves_tmp1 4 rfl ?_ (by first | rfl | exact hG)
              simp (disch := first | omega | decide) only [go_sem, f0, f1, f5, f6, f7, o5, cellsOf_step]
              all_goals first | done | (exfalso; simp only [okStep] at s1 s2 s3; simp only [ne_eq, Decidable.not_not] at hbt79; first | (have y := s1 hbt79; clear s1 s2 s3; grind) | (have y := s2; clear s1 s2 s3; grind) | (have y := s3 hbt79; clear s1 s2 s3; grind)) | trace_state
            case hf =>
              intro hb
              try simp only [Bool.or_eq_true, Bool.and_eq_true, Bool.or_eq_false_iff, Bool.and_eq_false_iff, decide_eq_true_eq, decide_eq_false_iff_not] at hb
              have hbt129 := hb
              refine AW.skip ?_
              refine AW.region (cfg := cfg) ?_
              iterate 3 (apply aops_step (by decide) rfl; · (intro K hK; simp (disch := first | omega | decide) only [go_sem, f0, f1, f5, f6, f7, o5, cellsOf_step]; exact hK _))
              refine aops_nil ?_
              refine ⟨_, _, ?_, ?_, ?_, ?_, ?_, ?_, ?_, ?_, ?_, rfl, ?_, ?_, ?_, ?_, ?_, ?_, ?_, ?_, ?_, ?_, hG⟩ <;> try simp (disch := first | omega | decide) only [go_sem, f0, f1, f5, f6, f7, o5, cellsOf_step]
              all_goals first | rfl | skip
              all_goals (simp only [okStep] at s1 s2 s3)
              all_goals (try simp only [ne_eq, Decidable.not_not] at hbt79)
              all_goals first | assumption | exact mo0 | exact mo1 | omega | (exfalso; simp [chk, mo0] at hbt79; done) | exact (s1 hbt79).1 | exact s2.1.1 | exact (s3 hbt79).1.1 | exact (s1 hbt79).2.1.trans mo1 | exact s2.1.2.1.trans mo1 | exact (s3 hbt79).1.2.1.trans mo1 | (intro _; omega) | (have z := s1 hbt79; intro _; omega) | (intro z; have z3 := mo3 (s2.2 z).1; have z4 := (s2.2 z).2; have z5 : ((⟨of, co, bo, ep, he, fu, ag, go⟩ : Near)).ag = ag := rfl; omega) | (intro z; have z3 := mo3 ((s3 hbt79).2 z).1; have z4 := ((s3 hbt79).2 z).2; have z5 : ((⟨of, co, bo, ep, he, fu, ag, go⟩ : Near)).ag = ag := rfl; omega) | trace_state
    · clear f0 f1 hG
      rintro σ ⟨s, m, of, co, bo, ep, he, fu, ag, go, si, rfl, f0, f1, f5, o5, f6, f7, mo0, mo1, mo2, mo3, hG⟩
      obtain ⟨g5, o5⟩ : ∃ g, m.objs (.tmp 5 0) = (g, .box [.v (i64 of), .v (i64 co), .v (i64 bo), .v (i64 ep), .v (.b he), .v (.b fu), .v (i64 ag), .v (.b go)]) := ⟨_, Prod.ext rfl o5⟩
      rw [o5] at f5
      refine AW.seq ?_
      refine AW.seq ?_
      refine AW.region (cfg := cfg) ?_
      iterate 4 (apply aops_step (by decide) rfl; · (intro K hK; simp (disch := first | omega | decide) only [go_sem, f0, f1, f5, f6, f7, o5, List.map, List.length_map, aops_len u80, cellsOf_step]; exact hK _))
      refine aops_nil ?_
      apply AW.cond
      · simp (disch := first | omega | decide) only [go_sem, f0, f1, f5, f6, f7, o5, cellsOf_step]; rfl
      case ht => intro hb; first | (simp at hb; done) | (simp at hb; omega)
      case hf =>
      intro hb
      have hbt29 := hb
      refine AW.exit ?_
      refine AW.seq ?_
      refine AW.region (cfg := cfg) ?_
      apply aops_step (by decide) rfl
      · intro K hK
        simp (disch := first | omega | decide) only [go_sem, f0, f1, f5, f6, f7, o5, act_call, List.map, cellsOf_step]
        apply mwp_call_s rfl rfl rfl
        · intro Q hQ
          simp (disch := first | omega | decide) only [go_sem, f0, f1, f5, f6, f7, o5, peekL, reifyL_nil, reifyL_cons, reify_v, cellsOf_step]
          first | exact hQ | ((first | rw [peek_own (by simp (disch := first | omega | decide) only [go_sem, f0, f1, f5, f6, f7, o5, peekL, cellsOf_step]; rfl)] | rw [mwp_reify_own (by simp (disch := first | omega | decide) only [go_sem, f0, f1, f5, f6, f7, o5, peekL, cellsOf_step]; rfl)]); exact hQ) | ((first | rw [peek_own (by simp (disch := first | omega | decide) only [go_sem, f0, f1, f5, f6, f7, o5, peekL, cellsOf_step]; rfl)] | rw [mwp_reify_own (by simp (disch := first | omega | decide) only [go_sem, f0, f1, f5, f6, f7, o5, peekL, cellsOf_step]; rfl)]); simp (disch := first | omega | decide) only [go_sem, f0, f1, f5, f6, f7, o5, peekL, cellsOf_step]; (first | rw [peek_own (by simp (disch := first | omega | decide) only [go_sem, f0, f1, f5, f6, f7, o5, peekL, cellsOf_step]; rfl)] | rw [mwp_reify_own (by simp (disch := first | omega | decide) only [go_sem, f0, f1, f5, f6, f7, o5, peekL, cellsOf_step]; rfl)]); exact hQ) | ((first | rw [peek_own (by simp (disch := first | omega | decide) only [go_sem, f0, f1, f5, f6, f7, o5, peekL, cellsOf_step]; rfl)] | rw [mwp_reify_own (by simp (disch := first | omega | decide) only [go_sem, f0, f1, f5, f6, f7, o5, peekL, cellsOf_step]; rfl)]); simp (disch := first | omega | decide) only [go_sem, f0, f1, f5, f6, f7, o5, peekL, cellsOf_step]; exact hQ)
        · exact good_awake
        · simp [-List.map_take, -List.map_drop, noPtrL, noPtr, noPtrL_bsl, noPtrL_map, sub]
        · rfl
        · exact hK _
      iterate 1 (apply aops_step (by decide) rfl; · (intro K hK; simp (disch := first | omega | decide) only [go_sem, f0, f1, f5, f6, f7, o5, cellsOf_step]; exact hK _))
      refine aops_nil ?_
      refine AW.ret ?_
      refine ⟨.inr rfl, ?_⟩
      refine leaves_tmp1 4 rfl ?_ (by first | rfl | exact hG)
      simp (disch := first | omega | decide) only [go_sem, f0, f1, f5, f6, f7, o5, cellsOf_step]
      all_goals first | done | (exfalso; simp only [okStep] at s1 s2 s3; simp only [ne_eq, Decidable.not_not] at hbt79; first | (have y := s1 hbt79; clear s1 s2 s3; grind) | (have y := s2; clear s1 s2 s3; grind) | (have y := s3 hbt79; clear s1 s2 s3; grind)) | trace_state

end Go.Vai.N
