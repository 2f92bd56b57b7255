import Derived.Test.YtompjoadhhjddaabCh
namespace Go.Vai.C
open Go.Proofs Go.Vai Go.Vai.G Go.Vai.L Go.Vai.O
set_option linter.unusedSimpArgs false
set_option linter.unusedVariables false

theorem many_wi (l : List Ch) : wi (l.length : Int) 1 40 = many l := by
  rw [wi, many]
  congr 1 <;> (apply decide_eq_decide.2; omega)
def putOK (l : List Ch) : Bool := many l && allCh l
def putS (l : List Ch) : List (BitVec 8) := if putOK l then putB l else []
def putE (l : List Ch) : Int := if putOK l then 0 else 1
theorem put_no {l : List Ch} (h : putOK l = false) : putS l = [] ∧ putE l = 1 := ⟨by rw [putS, h]; rfl, by rw [putE, h]; rfl⟩
theorem put_yes {l : List Ch} (h : putOK l = true) : putS l = putB l ∧ putE l = 0 := ⟨by rw [putS, h]; rfl, by rw [putE, h]; rfl⟩
theorem put_no0 {l : List Ch} (h : many l = false) : putOK l = false := by rw [putOK, h]; rfl
theorem put_no1 {l : List Ch} {k : Nat} (hk : k < l.length) (h : chOK l[k] = false) : putOK l = false := by
  have : allCh l = false := by
    cases e : allCh l with
    | false => rfl
    | true => exact absurd (List.all_eq_true.1 e l[k] (List.getElem_mem hk)) (by rw [h]; decide)
  rw [putOK, this, Bool.and_false]
theorem all_next {l : List Ch} {k : Nat} (hk : k < l.length) (h : allCh (l.take k) = true) (h2 : chOK l[k] = true) : allCh (l.take (k + 1)) = true := by
  rw [allCh, List.take_succ_eq_append_getElem hk, List.all_append, List.all_cons, List.all_nil, h2]
  rw [allCh] at h; rw [h]; rfl
theorem chE_f2 {c : Ch} (h : ¬ chE c = 0) : chOK c = false := by cases e : chOK c <;> simp [chE, e] at h ⊢
theorem chE_f3 {c : Ch} (h : ¬ chE c = 0) : chE c = 1 := by cases e : chOK c <;> simp [chE, e] at h ⊢
theorem chE_t2 {c : Ch} (h : chE c = 0) : chOK c = true := by cases e : chOK c <;> simp [chE, e] at h ⊢
theorem ch_num {c : Ch} (h : chOK c = true) : (1 ≤ c.kind ∧ c.kind ≤ 4) ∧ (0 ≤ c.n ∧ c.n ≤ 4611686018427387904) ∧ (0 ≤ c.of ∧ c.of ≤ 64) := by
  rcases ch_kind h with h | h | h | h <;> omega
theorem ch_b1 {c : Ch} (h0 : chOK c = true) (h : c.kind = 1) : lsaOK c.l = true ∧ lsaS c.l = lsaB c.l ∧ chB c = numR c.kind 1 ++ lsaB c.l := by
  have : lsaOK c.l = true := by rcases ch_kind h0 with h2 | h2 | h2 | h2 <;> first | exact h2.2.1 | (exfalso; omega)
  exact ⟨this, by rw [lsaS, this]; rfl, by rw [chB, if_pos h]⟩
theorem ch_b2 {c : Ch} (h : c.kind = 2) : chB c = numR c.kind 1 ++ numR c.n 8 := by rw [chB, if_neg (by omega), if_pos h]
theorem ch_b4 {c : Ch} (h : c.kind = 4) : chB c = numR c.kind 1 ++ (numR c.of 1 ++ numR c.n 4) := by rw [chB, if_neg (by omega), if_neg (by omega), if_pos h]
theorem ch_b3 {c : Ch} (h : c.kind = 3) : chB c = numR c.kind 1 ++ numR c.n 4 := by rw [chB, if_neg (by omega), if_neg (by omega), if_neg (by omega)]
theorem take_le {l : List Ch} {k : Nat} (h : allCh (l.take k) = true) : (chsB (l.take k)).length ≤ 91 * k := by
  have := chsB_len (l := l.take k) (fun c hc => List.all_eq_true.1 h c hc)
  have h2 : (l.take k).length ≤ k := by rw [List.length_take]; omega
  exact Nat.le_trans this (Nat.mul_le_mul_left _ h2)
set_option maxHeartbeats 4000000 in
set_option maxRecDepth 100000 in
theorem good_PutC (nil : Bool) (l : List Ch) (hl : l.length ≤ 9223372036854775807) (pl : ∀ c ∈ l, c.l.ls.length ≤ 9223372036854775807) : Good Try.prog 46 [(.sl 6 nil (l.map chA), false)] [] [(.sl 1 (!putOK l) (bsl (putS l)), true), (i64 (putE l), false)] [] := by
  refine good_of_body3 63 Try.func46 rfl rfl rfl (by simp) ?_
  intro s m ha hr hv hG
  have f0 : s 0 = .v (.sl 6 nil (l.map chA)) := ha 0 _ rfl
  clear ha
  refine AW.seq ?_
  refine AW.region (cfg := cfg2) ?_
  iterate 2 (apply aops_step (by decide) rfl; · (intro K hK; simp (disch := first | omega | decide) only [go_sem, f0, sz25, cellsOf_ch, cellsOf_lsa, chE_dec, many_wi, numS1, numS4, numS8, nm1, nm4, nm8, Bool.false_and, List.append_assoc, List.nil_append]; exact hK _))
  refine aops_nil ?_
  refine AW.seq ?_
  refine AW.seq ?_
  refine AW.region (cfg := cfg2) ?_
  iterate 2 (apply aops_step (by decide) rfl; · (intro K hK; simp (disch := first | omega | decide) only [go_sem, f0, List.map, List.length_map, aops_len u65, cellsOf_ch, cellsOf_lsa, chE_dec, many_wi, numS1, numS4, numS8, nm1, nm4, nm8, Bool.false_and, List.append_assoc, List.nil_append]; exact hK _))
  apply aops_step (by decide) rfl
  · intro K hK
    simp (disch := first | omega | decide) only [go_sem, f0, act_call, List.map, cellsOf_ch, cellsOf_lsa, chE_dec, many_wi, numS1, numS4, numS8, nm1, nm4, nm8, Bool.false_and, List.append_assoc, List.nil_append]
    apply mwp_call_s rfl rfl rfl
    · intro Q hQ
      (simp (disch := first | omega | decide) only [go_sem, f0, peekL, reifyL_nil, reifyL_cons, reify_v, cellsOf_ch, cellsOf_lsa, chE_dec, many_wi, numS1, numS4, numS8, nm1, nm4, nm8, Bool.false_and, List.append_assoc, List.nil_append]; (exact hQ))
    · exact good_withinC _ _ _
    · simp [-List.map_take, -List.map_drop, -List.map_append, -List.map_replicate, -List.reduceReplicate, noPtrL, noPtr, noPtrL_bsl, noPtrL_map, sub]
    · rfl
    · exact hK _
  iterate 1 (apply aops_step (by decide) rfl; · (intro K hK; simp (disch := first | omega | decide) only [go_sem, f0, cellsOf_ch, cellsOf_lsa, chE_dec, many_wi, numS1, numS4, numS8, nm1, nm4, nm8, Bool.false_and, List.append_assoc, List.nil_append]; exact hK _))
  refine aops_nil ?_
  apply AW.cond
  · simp (disch := first | omega | decide) only [go_sem, f0, cellsOf_ch, cellsOf_lsa, chE_dec, many_wi, numS1, numS4, numS8, nm1, nm4, nm8, Bool.false_and, List.append_assoc, List.nil_append]; rfl
  case ht =>
    intro hb
    try simp only [Bool.or_eq_true, Bool.and_eq_true, Bool.or_eq_false_iff, Bool.and_eq_false_iff, decide_eq_true_eq, decide_eq_false_iff_not] at hb
    have hbt11 := hb
    refine AW.seq ?_
    refine AW.region (cfg := cfg2) ?_
    iterate 2 (apply aops_step (by decide) rfl; · (intro K hK; simp (disch := first | omega | decide) only [go_sem, f0, sz25, cellsOf_ch, cellsOf_lsa, chE_dec, many_wi, numS1, numS4, numS8, nm1, nm4, nm8, Bool.false_and, List.append_assoc, List.nil_append]; exact hK _))
    refine aops_nil ?_
    refine AW.ret ?_
    refine ⟨.inr rfl, ?_⟩
    (have zz : putOK l = false := put_no0 (by simpa using hbt11))
    (obtain ⟨e1, e2⟩ := put_no zz; rw [e1, e2, zz]; refine leavesN (leaves_own2 2 3 rfl (by simp (disch := first | omega | decide) only [go_sem, f0, cellsOf_ch, cellsOf_lsa, chE_dec, many_wi, numS1, numS4, numS8, nm1, nm4, nm8, Bool.false_and, List.append_assoc, List.nil_append] <;> rfl) (by simp (disch := first | omega | decide) only [go_sem, f0, cellsOf_ch, cellsOf_lsa, chE_dec, many_wi, numS1, numS4, numS8, nm1, nm4, nm8, Bool.false_and, List.append_assoc, List.nil_append] <;> rfl) (by simp (disch := first | omega | decide) only [go_sem, f0, cellsOf_ch, cellsOf_lsa, chE_dec, many_wi, numS1, numS4, numS8, nm1, nm4, nm8, Bool.false_and, List.append_assoc, List.nil_append] <;> rfl) (by decide) (by simp [sub, List.take_of_length_le]) (by exact hG)))
  case hf =>
    intro hb
    try simp only [Bool.or_eq_true, Bool.and_eq_true, Bool.or_eq_false_iff, Bool.and_eq_false_iff, decide_eq_true_eq, decide_eq_false_iff_not] at hb
    have hbt11 := hb
    refine AW.skip ?_
    refine AW.seq ?_
    have hmy : many l = true := by simpa using hbt11
    have hmb := many_bd hmy
    refine AW.region (cfg := cfg2) ?_
    iterate 3 (apply aops_step (by decide) rfl; · (intro K hK; simp (disch := first | omega | decide) only [go_sem, f0, List.map, List.length_map, aops_len u65, act_convI u3 u97, cellsOf_ch, cellsOf_lsa, chE_dec, many_wi, numS1, numS4, numS8, nm1, nm4, nm8, Bool.false_and, List.append_assoc, List.nil_append]; exact hK _))
    apply aops_step (by decide) rfl
    · intro K hK
      simp (disch := first | omega | decide) only [go_sem, f0, act_call, List.map, cellsOf_ch, cellsOf_lsa, chE_dec, many_wi, numS1, numS4, numS8, nm1, nm4, nm8, Bool.false_and, List.append_assoc, List.nil_append]
      apply mwp_call_r rfl rfl rfl
      · intro Q hQ
        (simp (disch := first | omega | decide) only [go_sem, f0, peekL, reifyL_nil, reifyL_cons, reify_v, cellsOf_ch, cellsOf_lsa, chE_dec, many_wi, numS1, numS4, numS8, nm1, nm4, nm8, Bool.false_and, List.append_assoc, List.nil_append]; (exact hQ))
      · exact (O.good_Num true [] (by simp) (by simp) 1 (l.length : Int) (by omega)).nil0
      · simp [-List.map_take, -List.map_drop, -List.map_append, -List.map_replicate, -List.reduceReplicate, noPtrL, noPtr, noPtrL_bsl, noPtrL_map, sub]
      · rw [resOf_own1 (by (simp (disch := decide) only [mset_ne, hr]; done))]
        exact hK _
    apply aops_step (by decide) rfl
    · intro K hK
      simp (disch := first | omega | decide) only [go_sem, f0, cellsOf_ch, cellsOf_lsa, chE_dec, many_wi, numS1, numS4, numS8, nm1, nm4, nm8, Bool.false_and, List.append_assoc, List.nil_append]
      rw [asg_tmp (by simp (disch := first | omega | decide) only [go_sem, f0, cellsOf_ch, cellsOf_lsa, chE_dec, many_wi, numS1, numS4, numS8, nm1, nm4, nm8, Bool.false_and, List.append_assoc, List.nil_append]; rfl)]
      exact hK _
    refine aops_nil ?_
    refine AW.seq ?_
    refine AW.seq ?_
    refine AW.region (cfg := cfg2) ?_
    iterate 3 (apply aops_step (by decide) rfl; · (intro K hK; simp (disch := first | omega | decide) only [go_sem, f0, List.map, List.length_map, aops_len u65, cellsOf_ch, cellsOf_lsa, chE_dec, many_wi, numS1, numS4, numS8, nm1, nm4, nm8, Bool.false_and, List.append_assoc, List.nil_append]; exact hK _))
    refine aops_nil ?_
    refine AW.block ?_
    refine AW.forN (fun k σ => ∃ s m, σ = ⟨63, s, m⟩ ∧ s 4 = .own (.var 4) (m.objs (.var 4)).1 0 (1 + (chsB (l.take k)).length) ∧ (m.objs (.var 4)).2 = .arr false 1 (bsl (numR (l.length : Int) 1 ++ chsB (l.take k))) ∧ s 16 = .v (.sl 6 nil (l.map chA)) ∧ s 17 = .v (i64 (l.length : Int)) ∧ s 18 = .v (i64 (k : Int)) ∧ (allCh (l.take k) = true) ∧ (∀ i, (m.objs (.res i)).2 = .dead) ∧ m.G = []) (l.length) ?_ ?_ ?_
    · refine ⟨_, _, rfl, ?_, ?_, ?_, ?_, ?_, ?_, (by intro i; simp [Mem.set, hr]), (by exact hG)⟩ <;> try simp (disch := first | omega | decide) only [go_sem, f0, cellsOf_ch, cellsOf_lsa, chE_dec, many_wi, numS1, numS4, numS8, nm1, nm4, nm8, Bool.false_and, List.append_assoc, List.nil_append]
      all_goals rfl
    · clear f0 hr hG
      rintro k σ hk ⟨s, m, rfl, f4, o4, f16, f17, f18, mo0, hr, hG⟩
      obtain ⟨g4, o4⟩ : ∃ g, m.objs (.var 4) = (g, .arr false 1 (bsl (numR (l.length : Int) 1 ++ chsB (l.take k)))) := ⟨_, Prod.ext rfl o4⟩
      rw [o4] at f4
      refine AW.seq ?_
      refine AW.region (cfg := cfg2) ?_
      iterate 1 (apply aops_step (by decide) rfl; · (intro K hK; simp (disch := first | omega | decide) only [go_sem, f4, f16, f17, f18, o4, cellsOf_ch, cellsOf_lsa, chE_dec, many_wi, numS1, numS4, numS8, nm1, nm4, nm8, Bool.false_and, List.append_assoc, List.nil_append]; exact hK _))
      refine aops_nil ?_
      refine AW.seq ?_
      apply AW.cond
      · simp (disch := first | omega | decide) only [go_sem, f4, f16, f17, f18, o4, cellsOf_ch, cellsOf_lsa, chE_dec, many_wi, numS1, numS4, numS8, nm1, nm4, nm8, Bool.false_and, List.append_assoc, List.nil_append]; rfl
      case hf => intro hb; (simp at hb; omega)
      case ht =>
      intro hb
      have hbt19 := hb
      refine AW.skip ?_
      refine AW.seq ?_
      refine AW.block ?_
      refine AW.seq ?_
      have hkl : k < l.length := hk
      have pkl := pl l[k] (List.getElem_mem hk)
      have tkl := take_le mo0
      refine AW.region (cfg := cfg2) ?_
      apply aops_step (by decide) rfl
      · intro K hK
        simp (disch := first | omega | decide) only [go_sem, f4, f16, f17, f18, o4, act_indexAddr_s u65 ti74, List.map, cellsOf_ch, cellsOf_lsa, chE_dec, many_wi, numS1, numS4, numS8, nm1, nm4, nm8, Bool.false_and, List.append_assoc, List.nil_append]
        skip
        exact hK _
      apply aops_step (by decide) rfl
      · intro K hK
        simp (disch := first | omega | decide) only [go_sem, f4, f16, f17, f18, o4, act_load_t ti74, List.map, cellsOf_ch, cellsOf_lsa, chE_dec, many_wi, numS1, numS4, numS8, nm1, nm4, nm8, Bool.false_and, List.append_assoc, List.nil_append]
        rw [mwp_load_is (by simp)]
        exact hK _
      apply aops_step (by decide) rfl
      · intro K hK
        simp (disch := first | omega | decide) only [go_sem, f4, f16, f17, f18, o4, act_alloc_t ti74, List.map, cellsOf_ch, cellsOf_lsa, chE_dec, many_wi, numS1, numS4, numS8, nm1, nm4, nm8, Bool.false_and, List.append_assoc, List.nil_append]
        exact hK _
      apply aops_step0 rfl
      · intro K hK
        simp (disch := first | omega | decide) only [go_sem, f4, f16, f17, f18, o4, act_store_t ti74, List.map, cellsOf_ch, cellsOf_lsa, chE_dec, many_wi, numS1, numS4, numS8, nm1, nm4, nm8, Bool.false_and, List.append_assoc, List.nil_append]
        rw [mwp_store_c (by simp (disch := first | omega | decide) only [go_sem, f4, f16, f17, f18, o4, cellsOf_ch, cellsOf_lsa, chE_dec, many_wi, numS1, numS4, numS8, nm1, nm4, nm8, Bool.false_and, List.append_assoc, List.nil_append]; rfl) (by rfl) (by rfl) (by rfl) (by simp)]
        try simp only [setAt, cellsL, cellsOf_agg, cellsOf_base, List.map_cons, List.map_nil, List.set_cons_zero, List.set_cons_succ, Nat.reduceAdd, Nat.zero_add, hG]
        exact hK _
      refine aops_nil ?_
      refine AW.seq ?_
      refine AW.seq ?_
      refine AW.region (cfg := cfg2) ?_
      apply aops_step (by decide) rfl
      · intro K hK
        simp (disch := first | omega | decide) only [go_sem, f4, f16, f17, f18, o4, act_load_t ti74, List.map, cellsOf_ch, cellsOf_lsa, chE_dec, many_wi, numS1, numS4, numS8, nm1, nm4, nm8, Bool.false_and, List.append_assoc, List.nil_append]
        rw [mwp_load_bs (by simp (disch := first | omega | decide) only [go_sem, f4, f16, f17, f18, o4, cellsOf_ch, cellsOf_lsa, chE_dec, many_wi, numS1, numS4, numS8, nm1, nm4, nm8, Bool.false_and, List.append_assoc, List.nil_append]; rfl) (by simp [setAt])]
        exact hK _
      apply aops_step (by decide) rfl
      · intro K hK
        simp (disch := first | omega | decide) only [go_sem, f4, f16, f17, f18, o4, act_call, List.map, cellsOf_ch, cellsOf_lsa, chE_dec, many_wi, numS1, numS4, numS8, nm1, nm4, nm8, Bool.false_and, List.append_assoc, List.nil_append]
        apply mwp_call_s rfl rfl rfl
        · intro Q hQ
          (simp (disch := first | omega | decide) only [go_sem, f4, f16, f17, f18, o4, peekL, reifyL_nil, reifyL_cons, reify_v, cellsOf_ch, cellsOf_lsa, chE_dec, many_wi, numS1, numS4, numS8, nm1, nm4, nm8, Bool.false_and, List.append_assoc, List.nil_append]; (exact hQ))
        · exact good_CheckC l[k] pkl
        · simp [-List.map_take, -List.map_drop, -List.map_append, -List.map_replicate, -List.reduceReplicate, noPtrL, noPtr, noPtrL_bsl, noPtrL_map, sub]
        · rfl
        · exact hK _
      iterate 1 (apply aops_step (by decide) rfl; · (intro K hK; simp (disch := first | omega | decide) only [go_sem, f4, f16, f17, f18, o4, cellsOf_ch, cellsOf_lsa, chE_dec, many_wi, numS1, numS4, numS8, nm1, nm4, nm8, Bool.false_and, List.append_assoc, List.nil_append]; exact hK _))
      refine aops_nil ?_
      refine AW.seq ?_
      refine AW.region (cfg := cfg2) ?_
      iterate 2 (apply aops_step (by decide) rfl; · (intro K hK; simp (disch := first | omega | decide) only [go_sem, f4, f16, f17, f18, o4, cellsOf_ch, cellsOf_lsa, chE_dec, many_wi, numS1, numS4, numS8, nm1, nm4, nm8, Bool.false_and, List.append_assoc, List.nil_append]; exact hK _))
      refine aops_nil ?_
      apply AW.cond
      · simp (disch := first | omega | decide) only [go_sem, f4, f16, f17, f18, o4, cellsOf_ch, cellsOf_lsa, chE_dec, many_wi, numS1, numS4, numS8, nm1, nm4, nm8, Bool.false_and, List.append_assoc, List.nil_append]; rfl
      case ht =>
        intro hb
        try simp only [Bool.or_eq_true, Bool.and_eq_true, Bool.or_eq_false_iff, Bool.and_eq_false_iff, decide_eq_true_eq, decide_eq_false_iff_not] at hb
        have hbt25 := hb
        refine AW.seq ?_
        have hce := chE_f3 hbt25
        refine AW.region (cfg := cfg2) ?_
        iterate 3 (apply aops_step (by decide) rfl; · (intro K hK; simp (disch := first | omega | decide) only [go_sem, f4, f16, f17, f18, o4, hce, sz25, cellsOf_ch, cellsOf_lsa, chE_dec, many_wi, numS1, numS4, numS8, nm1, nm4, nm8, Bool.false_and, List.append_assoc, List.nil_append]; exact hK _))
        refine aops_nil ?_
        refine AW.ret ?_
        refine ⟨.inr rfl, ?_⟩
        (have zz : putOK l = false := put_no1 hk (chE_f2 hbt25))
        (obtain ⟨e1, e2⟩ := put_no zz; rw [e1, e2, zz]; refine leavesN (leaves_own2 2 3 rfl (by simp (disch := first | omega | decide) only [go_sem, f4, f16, f17, f18, o4, hce, cellsOf_ch, cellsOf_lsa, chE_dec, many_wi, numS1, numS4, numS8, nm1, nm4, nm8, Bool.false_and, List.append_assoc, List.nil_append] <;> rfl) (by simp (disch := first | omega | decide) only [go_sem, f4, f16, f17, f18, o4, hce, cellsOf_ch, cellsOf_lsa, chE_dec, many_wi, numS1, numS4, numS8, nm1, nm4, nm8, Bool.false_and, List.append_assoc, List.nil_append] <;> rfl) (by simp (disch := first | omega | decide) only [go_sem, f4, f16, f17, f18, o4, hce, cellsOf_ch, cellsOf_lsa, chE_dec, many_wi, numS1, numS4, numS8, nm1, nm4, nm8, Bool.false_and, List.append_assoc, List.nil_append] <;> rfl) (by decide) (by simp [sub, List.take_of_length_le]) (by exact hG)))
      case hf =>
        intro hb
        try simp only [Bool.or_eq_true, Bool.and_eq_true, Bool.or_eq_false_iff, Bool.and_eq_false_iff, decide_eq_true_eq, decide_eq_false_iff_not] at hb
        have hbt25 := hb
        refine AW.skip ?_
        refine AW.seq ?_
        have hck : chOK l[k] = true := chE_t2 (Decidable.not_not.1 hbt25)
        obtain ⟨cn1, cn2, cn3⟩ := ch_num hck
        refine AW.region (cfg := cfg2) ?_
        iterate 1 (apply aops_step (by decide) rfl; · (intro K hK; simp (disch := first | omega | decide) only [go_sem, f4, f16, f17, f18, o4, cellsOf_ch, cellsOf_lsa, chE_dec, many_wi, numS1, numS4, numS8, nm1, nm4, nm8, Bool.false_and, List.append_assoc, List.nil_append]; exact hK _))
        apply aops_step (by decide) rfl
        · intro K hK
          simp (disch := first | omega | decide) only [go_sem, f4, f16, f17, f18, o4, act_fieldAddr_t fo74_0, List.map, cellsOf_ch, cellsOf_lsa, chE_dec, many_wi, numS1, numS4, numS8, nm1, nm4, nm8, Bool.false_and, List.append_assoc, List.nil_append]
          rw [mwp_fieldAddr_b (by simp (disch := first | omega | decide) only [go_sem, f4, f16, f17, f18, o4, cellsOf_ch, cellsOf_lsa, chE_dec, many_wi, numS1, numS4, numS8, nm1, nm4, nm8, Bool.false_and, List.append_assoc, List.nil_append]; rfl)]
          exact hK _
        apply aops_step (by decide) rfl
        · intro K hK
          simp (disch := first | omega | decide) only [go_sem, f4, f16, f17, f18, o4, act_load_t ti3, List.map, cellsOf_ch, cellsOf_lsa, chE_dec, many_wi, numS1, numS4, numS8, nm1, nm4, nm8, Bool.false_and, List.append_assoc, List.nil_append]
          rw [mwp_load_b1 (by simp (disch := first | omega | decide) only [go_sem, f4, f16, f17, f18, o4, cellsOf_ch, cellsOf_lsa, chE_dec, many_wi, numS1, numS4, numS8, nm1, nm4, nm8, Bool.false_and, List.append_assoc, List.nil_append]; rfl) (by rfl)]
          exact hK _
        iterate 1 (apply aops_step (by decide) rfl; · (intro K hK; simp (disch := first | omega | decide) only [go_sem, f4, f16, f17, f18, o4, act_convI u3 u97, cellsOf_ch, cellsOf_lsa, chE_dec, many_wi, numS1, numS4, numS8, nm1, nm4, nm8, Bool.false_and, List.append_assoc, List.nil_append]; exact hK _))
        apply aops_step (by decide) rfl
        · intro K hK
          simp (disch := first | omega | decide) only [go_sem, f4, f16, f17, f18, o4, act_call, List.map, cellsOf_ch, cellsOf_lsa, chE_dec, many_wi, numS1, numS4, numS8, nm1, nm4, nm8, Bool.false_and, List.append_assoc, List.nil_append]
          apply mwp_call_r rfl rfl rfl
          · intro Q hQ
            (simp (disch := first | omega | decide) only [go_sem, f4, f16, f17, f18, o4, peekL, reifyL_nil, reifyL_cons, reify_v, cellsOf_ch, cellsOf_lsa, chE_dec, many_wi, numS1, numS4, numS8, nm1, nm4, nm8, Bool.false_and, List.append_assoc, List.nil_append]; ((((rw [mwp_reify_own (by simp (disch := first | omega | decide) only [go_sem, f4, f16, f17, f18, o4, peekL, reifyL_nil, reifyL_cons, reify_v, cellsOf_ch, cellsOf_lsa, chE_dec, many_wi, numS1, numS4, numS8, nm1, nm4, nm8, Bool.false_and, List.append_assoc, List.nil_append]; rfl)]); (try rw [sub_full (by (simp [numR_length]; done))])); exact hQ)))
          · exact O.good_Num _ _ (by (simp [numR_length]; omega)) (by simp) _ _ (by omega)
          · simp [-List.map_take, -List.map_drop, -List.map_append, -List.map_replicate, -List.reduceReplicate, noPtrL, noPtr, noPtrL_bsl, noPtrL_map, sub]
          · rw [resOf_own1 (by (simp (disch := decide) only [mset_ne, hr]; done))]
            exact hK _
        apply aops_step (by decide) rfl
        · intro K hK
          simp (disch := first | omega | decide) only [go_sem, f4, f16, f17, f18, o4, cellsOf_ch, cellsOf_lsa, chE_dec, many_wi, numS1, numS4, numS8, nm1, nm4, nm8, Bool.false_and, List.append_assoc, List.nil_append]
          rw [asg_tmp (by simp (disch := first | omega | decide) only [go_sem, f4, f16, f17, f18, o4, cellsOf_ch, cellsOf_lsa, chE_dec, many_wi, numS1, numS4, numS8, nm1, nm4, nm8, Bool.false_and, List.append_assoc, List.nil_append]; rfl)]
          exact hK _
        refine aops_nil ?_
        refine AW.seq ?_
        refine AW.region (cfg := cfg2) ?_
        apply aops_step (by decide) rfl
        · intro K hK
          simp (disch := first | omega | decide) only [go_sem, f4, f16, f17, f18, o4, act_fieldAddr_t fo74_0, List.map, cellsOf_ch, cellsOf_lsa, chE_dec, many_wi, numS1, numS4, numS8, nm1, nm4, nm8, Bool.false_and, List.append_assoc, List.nil_append]
          rw [mwp_fieldAddr_b (by simp (disch := first | omega | decide) only [go_sem, f4, f16, f17, f18, o4, cellsOf_ch, cellsOf_lsa, chE_dec, many_wi, numS1, numS4, numS8, nm1, nm4, nm8, Bool.false_and, List.append_assoc, List.nil_append]; rfl)]
          exact hK _
        apply aops_step (by decide) rfl
        · intro K hK
          simp (disch := first | omega | decide) only [go_sem, f4, f16, f17, f18, o4, act_load_t ti3, List.map, cellsOf_ch, cellsOf_lsa, chE_dec, many_wi, numS1, numS4, numS8, nm1, nm4, nm8, Bool.false_and, List.append_assoc, List.nil_append]
          rw [mwp_load_b1 (by simp (disch := first | omega | decide) only [go_sem, f4, f16, f17, f18, o4, cellsOf_ch, cellsOf_lsa, chE_dec, many_wi, numS1, numS4, numS8, nm1, nm4, nm8, Bool.false_and, List.append_assoc, List.nil_append]; rfl) (by rfl)]
          exact hK _
        refine aops_nil ?_
        refine AW.block ?_
        refine AW.seq ?_
        refine AW.block ?_
        refine AW.seq ?_
        refine AW.block ?_
        refine AW.seq ?_
        refine AW.block ?_
        refine AW.seq ?_
        refine AW.block ?_
        refine AW.seq ?_
        refine AW.seq ?_
        refine AW.seq ?_
        refine AW.region (cfg := cfg2) ?_
        iterate 2 (apply aops_step (by decide) rfl; · (intro K hK; simp (disch := first | omega | decide) only [go_sem, f4, f16, f17, f18, o4, cellsOf_ch, cellsOf_lsa, chE_dec, many_wi, numS1, numS4, numS8, nm1, nm4, nm8, Bool.false_and, List.append_assoc, List.nil_append]; exact hK _))
        refine aops_nil ?_
        apply AW.cond
        · simp (disch := first | omega | decide) only [go_sem, f4, f16, f17, f18, o4, cellsOf_ch, cellsOf_lsa, chE_dec, many_wi, numS1, numS4, numS8, nm1, nm4, nm8, Bool.false_and, List.append_assoc, List.nil_append]; rfl
        case ht =>
          intro hb
          try simp only [Bool.or_eq_true, Bool.and_eq_true, Bool.or_eq_false_iff, Bool.and_eq_false_iff, decide_eq_true_eq, decide_eq_false_iff_not] at hb
          have hbt34 := hb
          refine AW.exit ?_
          refine AW.seq ?_
          obtain ⟨cb1, cb2, cb3⟩ := ch_b1 hck hbt34
          refine AW.region (cfg := cfg2) ?_
          iterate 1 (apply aops_step (by decide) rfl; · (intro K hK; simp (disch := first | omega | decide) only [go_sem, f4, f16, f17, f18, o4, cb1, cb2, cellsOf_ch, cellsOf_lsa, chE_dec, many_wi, numS1, numS4, numS8, nm1, nm4, nm8, Bool.false_and, List.append_assoc, List.nil_append]; exact hK _))
          apply aops_step (by decide) rfl
          · intro K hK
            simp (disch := first | omega | decide) only [go_sem, f4, f16, f17, f18, o4, cb1, cb2, act_fieldAddr_t fo74_1, List.map, cellsOf_ch, cellsOf_lsa, chE_dec, many_wi, numS1, numS4, numS8, nm1, nm4, nm8, Bool.false_and, List.append_assoc, List.nil_append]
            rw [mwp_fieldAddr_b (by simp (disch := first | omega | decide) only [go_sem, f4, f16, f17, f18, o4, cb1, cb2, cellsOf_ch, cellsOf_lsa, chE_dec, many_wi, numS1, numS4, numS8, nm1, nm4, nm8, Bool.false_and, List.append_assoc, List.nil_append]; rfl)]
            exact hK _
          apply aops_step (by decide) rfl
          · intro K hK
            simp (disch := first | omega | decide) only [go_sem, f4, f16, f17, f18, o4, cb1, cb2, act_load_t ti24, List.map, cellsOf_ch, cellsOf_lsa, chE_dec, many_wi, numS1, numS4, numS8, nm1, nm4, nm8, Bool.false_and, List.append_assoc, List.nil_append]
            rw [mwp_load_bs (by simp (disch := first | omega | decide) only [go_sem, f4, f16, f17, f18, o4, cb1, cb2, cellsOf_ch, cellsOf_lsa, chE_dec, many_wi, numS1, numS4, numS8, nm1, nm4, nm8, Bool.false_and, List.append_assoc, List.nil_append]; rfl) (by simp [setAt])]
            exact hK _
          apply aops_step (by decide) rfl
          · intro K hK
            simp (disch := first | omega | decide) only [go_sem, f4, f16, f17, f18, o4, cb1, cb2, act_call, List.map, cellsOf_ch, cellsOf_lsa, chE_dec, many_wi, numS1, numS4, numS8, nm1, nm4, nm8, Bool.false_and, List.append_assoc, List.nil_append]
            apply mwp_call_r rfl rfl rfl
            · intro Q hQ
              (simp (disch := first | omega | decide) only [go_sem, f4, f16, f17, f18, o4, cb1, cb2, peekL, reifyL_nil, reifyL_cons, reify_v, cellsOf_ch, cellsOf_lsa, chE_dec, many_wi, numS1, numS4, numS8, nm1, nm4, nm8, Bool.false_and, List.append_assoc, List.nil_append]; ((((rw [mwp_reify_own (by simp (disch := first | omega | decide) only [go_sem, f4, f16, f17, f18, o4, cb1, cb2, peekL, reifyL_nil, reifyL_cons, reify_v, cellsOf_ch, cellsOf_lsa, chE_dec, many_wi, numS1, numS4, numS8, nm1, nm4, nm8, Bool.false_and, List.append_assoc, List.nil_append]; rfl)]); (try rw [sub_full (by rfl)])); exact hQ)))
            · exact L.good_Put _ _ _ _ _ _ (by simp [numR_length]; omega) (by simp) pkl
            · simp [-List.map_take, -List.map_drop, -List.map_append, -List.map_replicate, -List.reduceReplicate, noPtrL, noPtr, noPtrL_bsl, noPtrL_map, sub]
            · rw [resOf_own1 (by (simp (disch := decide) only [mset_ne, hr]; done))]
              exact hK _
          apply aops_step (by decide) rfl
          · intro K hK
            simp (disch := first | omega | decide) only [go_sem, f4, f16, f17, f18, o4, cb1, cb2, cellsOf_ch, cellsOf_lsa, chE_dec, many_wi, numS1, numS4, numS8, nm1, nm4, nm8, Bool.false_and, List.append_assoc, List.nil_append]
            rw [asg_tmp (by simp (disch := first | omega | decide) only [go_sem, f4, f16, f17, f18, o4, cb1, cb2, cellsOf_ch, cellsOf_lsa, chE_dec, many_wi, numS1, numS4, numS8, nm1, nm4, nm8, Bool.false_and, List.append_assoc, List.nil_append]; rfl)]
            exact hK _
          refine aops_nil ?_
          refine AW.exit ?_
          refine AW.region (cfg := cfg2) ?_
          iterate 2 (apply aops_step (by decide) rfl; · (intro K hK; simp (disch := first | omega | decide) only [go_sem, f4, f16, f17, f18, o4, cb1, cb2, cellsOf_ch, cellsOf_lsa, chE_dec, many_wi, numS1, numS4, numS8, nm1, nm4, nm8, Bool.false_and, List.append_assoc, List.nil_append]; exact hK _))
          refine aops_nil ?_
          refine ⟨_, _, rfl, ?_, ?_, ?_, ?_, ?_, ?_, (by intro i; simp [Mem.set, hr]), (by exact hG)⟩ <;> try simp (disch := first | omega | decide) only [go_sem, f4, f16, f17, f18, o4, cb1, cb2, cellsOf_ch, cellsOf_lsa, chE_dec, many_wi, numS1, numS4, numS8, nm1, nm4, nm8, Bool.false_and, List.append_assoc, List.nil_append]
          all_goals first | rfl | exact all_next hk mo0 hck | (rw [chsB_take hk, cb3]; done) | (rw [chsB_take hk, cb3]; simp [numR_length]; done)
        case hf =>
          intro hb
          try simp only [Bool.or_eq_true, Bool.and_eq_true, Bool.or_eq_false_iff, Bool.and_eq_false_iff, decide_eq_true_eq, decide_eq_false_iff_not] at hb
          have hbt34 := hb
          refine AW.skip ?_
          refine AW.seq ?_
          refine AW.seq ?_
          refine AW.region (cfg := cfg2) ?_
          iterate 2 (apply aops_step (by decide) rfl; · (intro K hK; simp (disch := first | omega | decide) only [go_sem, f4, f16, f17, f18, o4, cellsOf_ch, cellsOf_lsa, chE_dec, many_wi, numS1, numS4, numS8, nm1, nm4, nm8, Bool.false_and, List.append_assoc, List.nil_append]; exact hK _))
          refine aops_nil ?_
          apply AW.cond
          · simp (disch := first | omega | decide) only [go_sem, f4, f16, f17, f18, o4, cellsOf_ch, cellsOf_lsa, chE_dec, many_wi, numS1, numS4, numS8, nm1, nm4, nm8, Bool.false_and, List.append_assoc, List.nil_append]; rfl
          case ht =>
            intro hb
            try simp only [Bool.or_eq_true, Bool.and_eq_true, Bool.or_eq_false_iff, Bool.and_eq_false_iff, decide_eq_true_eq, decide_eq_false_iff_not] at hb
            have hbt36 := hb
            refine AW.exit ?_
            refine AW.seq ?_
            refine AW.region (cfg := cfg2) ?_
            iterate 1 (apply aops_step (by decide) rfl; · (intro K hK; simp (disch := first | omega | decide) only [go_sem, f4, f16, f17, f18, o4, cellsOf_ch, cellsOf_lsa, chE_dec, many_wi, numS1, numS4, numS8, nm1, nm4, nm8, Bool.false_and, List.append_assoc, List.nil_append]; exact hK _))
            apply aops_step (by decide) rfl
            · intro K hK
              simp (disch := first | omega | decide) only [go_sem, f4, f16, f17, f18, o4, act_fieldAddr_t fo74_2, List.map, cellsOf_ch, cellsOf_lsa, chE_dec, many_wi, numS1, numS4, numS8, nm1, nm4, nm8, Bool.false_and, List.append_assoc, List.nil_append]
              rw [mwp_fieldAddr_b (by simp (disch := first | omega | decide) only [go_sem, f4, f16, f17, f18, o4, cellsOf_ch, cellsOf_lsa, chE_dec, many_wi, numS1, numS4, numS8, nm1, nm4, nm8, Bool.false_and, List.append_assoc, List.nil_append]; rfl)]
              exact hK _
            apply aops_step (by decide) rfl
            · intro K hK
              simp (disch := first | omega | decide) only [go_sem, f4, f16, f17, f18, o4, act_load_t ti3, List.map, cellsOf_ch, cellsOf_lsa, chE_dec, many_wi, numS1, numS4, numS8, nm1, nm4, nm8, Bool.false_and, List.append_assoc, List.nil_append]
              rw [mwp_load_b1 (by simp (disch := first | omega | decide) only [go_sem, f4, f16, f17, f18, o4, cellsOf_ch, cellsOf_lsa, chE_dec, many_wi, numS1, numS4, numS8, nm1, nm4, nm8, Bool.false_and, List.append_assoc, List.nil_append]; rfl) (by rfl)]
              exact hK _
            iterate 1 (apply aops_step (by decide) rfl; · (intro K hK; simp (disch := first | omega | decide) only [go_sem, f4, f16, f17, f18, o4, act_convI u3 u97, cellsOf_ch, cellsOf_lsa, chE_dec, many_wi, numS1, numS4, numS8, nm1, nm4, nm8, Bool.false_and, List.append_assoc, List.nil_append]; exact hK _))
            apply aops_step (by decide) rfl
            · intro K hK
              simp (disch := first | omega | decide) only [go_sem, f4, f16, f17, f18, o4, act_call, List.map, cellsOf_ch, cellsOf_lsa, chE_dec, many_wi, numS1, numS4, numS8, nm1, nm4, nm8, Bool.false_and, List.append_assoc, List.nil_append]
              apply mwp_call_r rfl rfl rfl
              · intro Q hQ
                (simp (disch := first | omega | decide) only [go_sem, f4, f16, f17, f18, o4, peekL, reifyL_nil, reifyL_cons, reify_v, cellsOf_ch, cellsOf_lsa, chE_dec, many_wi, numS1, numS4, numS8, nm1, nm4, nm8, Bool.false_and, List.append_assoc, List.nil_append]; ((((rw [mwp_reify_own (by simp (disch := first | omega | decide) only [go_sem, f4, f16, f17, f18, o4, peekL, reifyL_nil, reifyL_cons, reify_v, cellsOf_ch, cellsOf_lsa, chE_dec, many_wi, numS1, numS4, numS8, nm1, nm4, nm8, Bool.false_and, List.append_assoc, List.nil_append]; rfl)]); (try rw [sub_full (by rfl)])); exact hQ)))
              · exact O.good_Num _ _ (by (simp [numR_length]; omega)) (by simp) _ _ (by omega)
              · simp [-List.map_take, -List.map_drop, -List.map_append, -List.map_replicate, -List.reduceReplicate, noPtrL, noPtr, noPtrL_bsl, noPtrL_map, sub]
              · rw [resOf_own1 (by (simp (disch := decide) only [mset_ne, hr]; done))]
                exact hK _
            apply aops_step (by decide) rfl
            · intro K hK
              simp (disch := first | omega | decide) only [go_sem, f4, f16, f17, f18, o4, cellsOf_ch, cellsOf_lsa, chE_dec, many_wi, numS1, numS4, numS8, nm1, nm4, nm8, Bool.false_and, List.append_assoc, List.nil_append]
              rw [asg_tmp (by simp (disch := first | omega | decide) only [go_sem, f4, f16, f17, f18, o4, cellsOf_ch, cellsOf_lsa, chE_dec, many_wi, numS1, numS4, numS8, nm1, nm4, nm8, Bool.false_and, List.append_assoc, List.nil_append]; rfl)]
              exact hK _
            refine aops_nil ?_
            refine AW.exit ?_
            refine AW.region (cfg := cfg2) ?_
            iterate 2 (apply aops_step (by decide) rfl; · (intro K hK; simp (disch := first | omega | decide) only [go_sem, f4, f16, f17, f18, o4, cellsOf_ch, cellsOf_lsa, chE_dec, many_wi, numS1, numS4, numS8, nm1, nm4, nm8, Bool.false_and, List.append_assoc, List.nil_append]; exact hK _))
            refine aops_nil ?_
            refine ⟨_, _, rfl, ?_, ?_, ?_, ?_, ?_, ?_, (by intro i; simp [Mem.set, hr]), (by exact hG)⟩ <;> try simp (disch := first | omega | decide) only [go_sem, f4, f16, f17, f18, o4, cellsOf_ch, cellsOf_lsa, chE_dec, many_wi, numS1, numS4, numS8, nm1, nm4, nm8, Bool.false_and, List.append_assoc, List.nil_append]
            all_goals first | rfl | exact all_next hk mo0 hck | (rw [chsB_take hk, ch_b2 hbt36]; done) | (rw [chsB_take hk, ch_b2 hbt36]; simp [numR_length]; done)
          case hf =>
            intro hb
            try simp only [Bool.or_eq_true, Bool.and_eq_true, Bool.or_eq_false_iff, Bool.and_eq_false_iff, decide_eq_true_eq, decide_eq_false_iff_not] at hb
            have hbt36 := hb
            refine AW.skip ?_
            refine AW.seq ?_
            refine AW.seq ?_
            refine AW.region (cfg := cfg2) ?_
            iterate 2 (apply aops_step (by decide) rfl; · (intro K hK; simp (disch := first | omega | decide) only [go_sem, f4, f16, f17, f18, o4, cellsOf_ch, cellsOf_lsa, chE_dec, many_wi, numS1, numS4, numS8, nm1, nm4, nm8, Bool.false_and, List.append_assoc, List.nil_append]; exact hK _))
            refine aops_nil ?_
            apply AW.cond
            · simp (disch := first | omega | decide) only [go_sem, f4, f16, f17, f18, o4, cellsOf_ch, cellsOf_lsa, chE_dec, many_wi, numS1, numS4, numS8, nm1, nm4, nm8, Bool.false_and, List.append_assoc, List.nil_append]; rfl
            case ht =>
              intro hb
              try simp only [Bool.or_eq_true, Bool.and_eq_true, Bool.or_eq_false_iff, Bool.and_eq_false_iff, decide_eq_true_eq, decide_eq_false_iff_not] at hb
              have hbt38 := hb
              refine AW.exit ?_
              refine AW.region (cfg := cfg2) ?_
              iterate 1 (apply aops_step (by decide) rfl; · (intro K hK; simp (disch := first | omega | decide) only [go_sem, f4, f16, f17, f18, o4, cellsOf_ch, cellsOf_lsa, chE_dec, many_wi, numS1, numS4, numS8, nm1, nm4, nm8, Bool.false_and, List.append_assoc, List.nil_append]; exact hK _))
              apply aops_step (by decide) rfl
              · intro K hK
                simp (disch := first | omega | decide) only [go_sem, f4, f16, f17, f18, o4, act_fieldAddr_t fo74_3, List.map, cellsOf_ch, cellsOf_lsa, chE_dec, many_wi, numS1, numS4, numS8, nm1, nm4, nm8, Bool.false_and, List.append_assoc, List.nil_append]
                rw [mwp_fieldAddr_b (by simp (disch := first | omega | decide) only [go_sem, f4, f16, f17, f18, o4, cellsOf_ch, cellsOf_lsa, chE_dec, many_wi, numS1, numS4, numS8, nm1, nm4, nm8, Bool.false_and, List.append_assoc, List.nil_append]; rfl)]
                exact hK _
              apply aops_step (by decide) rfl
              · intro K hK
                simp (disch := first | omega | decide) only [go_sem, f4, f16, f17, f18, o4, act_load_t ti3, List.map, cellsOf_ch, cellsOf_lsa, chE_dec, many_wi, numS1, numS4, numS8, nm1, nm4, nm8, Bool.false_and, List.append_assoc, List.nil_append]
                rw [mwp_load_b1 (by simp (disch := first | omega | decide) only [go_sem, f4, f16, f17, f18, o4, cellsOf_ch, cellsOf_lsa, chE_dec, many_wi, numS1, numS4, numS8, nm1, nm4, nm8, Bool.false_and, List.append_assoc, List.nil_append]; rfl) (by rfl)]
                exact hK _
              iterate 1 (apply aops_step (by decide) rfl; · (intro K hK; simp (disch := first | omega | decide) only [go_sem, f4, f16, f17, f18, o4, act_convI u3 u97, cellsOf_ch, cellsOf_lsa, chE_dec, many_wi, numS1, numS4, numS8, nm1, nm4, nm8, Bool.false_and, List.append_assoc, List.nil_append]; exact hK _))
              apply aops_step (by decide) rfl
              · intro K hK
                simp (disch := first | omega | decide) only [go_sem, f4, f16, f17, f18, o4, act_call, List.map, cellsOf_ch, cellsOf_lsa, chE_dec, many_wi, numS1, numS4, numS8, nm1, nm4, nm8, Bool.false_and, List.append_assoc, List.nil_append]
                apply mwp_call_r rfl rfl rfl
                · intro Q hQ
                  (simp (disch := first | omega | decide) only [go_sem, f4, f16, f17, f18, o4, peekL, reifyL_nil, reifyL_cons, reify_v, cellsOf_ch, cellsOf_lsa, chE_dec, many_wi, numS1, numS4, numS8, nm1, nm4, nm8, Bool.false_and, List.append_assoc, List.nil_append]; ((((rw [mwp_reify_own (by simp (disch := first | omega | decide) only [go_sem, f4, f16, f17, f18, o4, peekL, reifyL_nil, reifyL_cons, reify_v, cellsOf_ch, cellsOf_lsa, chE_dec, many_wi, numS1, numS4, numS8, nm1, nm4, nm8, Bool.false_and, List.append_assoc, List.nil_append]; rfl)]); (try rw [sub_full (by rfl)])); exact hQ)))
                · exact O.good_Num _ _ (by (simp [numR_length]; omega)) (by simp) _ _ (by omega)
                · simp [-List.map_take, -List.map_drop, -List.map_append, -List.map_replicate, -List.reduceReplicate, noPtrL, noPtr, noPtrL_bsl, noPtrL_map, sub]
                · rw [resOf_own1 (by (simp (disch := decide) only [mset_ne, hr]; done))]
                  exact hK _
              apply aops_step (by decide) rfl
              · intro K hK
                simp (disch := first | omega | decide) only [go_sem, f4, f16, f17, f18, o4, cellsOf_ch, cellsOf_lsa, chE_dec, many_wi, numS1, numS4, numS8, nm1, nm4, nm8, Bool.false_and, List.append_assoc, List.nil_append]
                rw [asg_tmp (by simp (disch := first | omega | decide) only [go_sem, f4, f16, f17, f18, o4, cellsOf_ch, cellsOf_lsa, chE_dec, many_wi, numS1, numS4, numS8, nm1, nm4, nm8, Bool.false_and, List.append_assoc, List.nil_append]; rfl)]
                exact hK _
              refine aops_nil ?_
              refine AW.seq ?_
              refine AW.region (cfg := cfg2) ?_
              iterate 1 (apply aops_step (by decide) rfl; · (intro K hK; simp (disch := first | omega | decide) only [go_sem, f4, f16, f17, f18, o4, cellsOf_ch, cellsOf_lsa, chE_dec, many_wi, numS1, numS4, numS8, nm1, nm4, nm8, Bool.false_and, List.append_assoc, List.nil_append]; exact hK _))
              apply aops_step (by decide) rfl
              · intro K hK
                simp (disch := first | omega | decide) only [go_sem, f4, f16, f17, f18, o4, act_fieldAddr_t fo74_2, List.map, cellsOf_ch, cellsOf_lsa, chE_dec, many_wi, numS1, numS4, numS8, nm1, nm4, nm8, Bool.false_and, List.append_assoc, List.nil_append]
                rw [mwp_fieldAddr_b (by simp (disch := first | omega | decide) only [go_sem, f4, f16, f17, f18, o4, cellsOf_ch, cellsOf_lsa, chE_dec, many_wi, numS1, numS4, numS8, nm1, nm4, nm8, Bool.false_and, List.append_assoc, List.nil_append]; rfl)]
                exact hK _
              apply aops_step (by decide) rfl
              · intro K hK
                simp (disch := first | omega | decide) only [go_sem, f4, f16, f17, f18, o4, act_load_t ti3, List.map, cellsOf_ch, cellsOf_lsa, chE_dec, many_wi, numS1, numS4, numS8, nm1, nm4, nm8, Bool.false_and, List.append_assoc, List.nil_append]
                rw [mwp_load_b1 (by simp (disch := first | omega | decide) only [go_sem, f4, f16, f17, f18, o4, cellsOf_ch, cellsOf_lsa, chE_dec, many_wi, numS1, numS4, numS8, nm1, nm4, nm8, Bool.false_and, List.append_assoc, List.nil_append]; rfl) (by rfl)]
                exact hK _
              iterate 1 (apply aops_step (by decide) rfl; · (intro K hK; simp (disch := first | omega | decide) only [go_sem, f4, f16, f17, f18, o4, act_convI u3 u97, cellsOf_ch, cellsOf_lsa, chE_dec, many_wi, numS1, numS4, numS8, nm1, nm4, nm8, Bool.false_and, List.append_assoc, List.nil_append]; exact hK _))
              apply aops_step (by decide) rfl
              · intro K hK
                simp (disch := first | omega | decide) only [go_sem, f4, f16, f17, f18, o4, act_call, List.map, cellsOf_ch, cellsOf_lsa, chE_dec, many_wi, numS1, numS4, numS8, nm1, nm4, nm8, Bool.false_and, List.append_assoc, List.nil_append]
                apply mwp_call_r rfl rfl rfl
                · intro Q hQ
                  (simp (disch := first | omega | decide) only [go_sem, f4, f16, f17, f18, o4, peekL, reifyL_nil, reifyL_cons, reify_v, cellsOf_ch, cellsOf_lsa, chE_dec, many_wi, numS1, numS4, numS8, nm1, nm4, nm8, Bool.false_and, List.append_assoc, List.nil_append]; ((((rw [mwp_reify_own (by simp (disch := first | omega | decide) only [go_sem, f4, f16, f17, f18, o4, peekL, reifyL_nil, reifyL_cons, reify_v, cellsOf_ch, cellsOf_lsa, chE_dec, many_wi, numS1, numS4, numS8, nm1, nm4, nm8, Bool.false_and, List.append_assoc, List.nil_append]; rfl)]); (try rw [sub_full (by rfl)])); exact hQ)))
                · exact O.good_Num _ _ (by (simp [numR_length]; omega)) (by simp) _ _ (by omega)
                · simp [-List.map_take, -List.map_drop, -List.map_append, -List.map_replicate, -List.reduceReplicate, noPtrL, noPtr, noPtrL_bsl, noPtrL_map, sub]
                · rw [resOf_own1 (by (simp (disch := decide) only [mset_ne, hr]; done))]
                  exact hK _
              apply aops_step (by decide) rfl
              · intro K hK
                simp (disch := first | omega | decide) only [go_sem, f4, f16, f17, f18, o4, cellsOf_ch, cellsOf_lsa, chE_dec, many_wi, numS1, numS4, numS8, nm1, nm4, nm8, Bool.false_and, List.append_assoc, List.nil_append]
                rw [asg_tmp (by simp (disch := first | omega | decide) only [go_sem, f4, f16, f17, f18, o4, cellsOf_ch, cellsOf_lsa, chE_dec, many_wi, numS1, numS4, numS8, nm1, nm4, nm8, Bool.false_and, List.append_assoc, List.nil_append]; rfl)]
                exact hK _
              refine aops_nil ?_
              refine AW.exit ?_
              refine AW.region (cfg := cfg2) ?_
              iterate 2 (apply aops_step (by decide) rfl; · (intro K hK; simp (disch := first | omega | decide) only [go_sem, f4, f16, f17, f18, o4, cellsOf_ch, cellsOf_lsa, chE_dec, many_wi, numS1, numS4, numS8, nm1, nm4, nm8, Bool.false_and, List.append_assoc, List.nil_append]; exact hK _))
              refine aops_nil ?_
              refine ⟨_, _, rfl, ?_, ?_, ?_, ?_, ?_, ?_, (by intro i; simp [Mem.set, hr]), (by exact hG)⟩ <;> try simp (disch := first | omega | decide) only [go_sem, f4, f16, f17, f18, o4, cellsOf_ch, cellsOf_lsa, chE_dec, many_wi, numS1, numS4, numS8, nm1, nm4, nm8, Bool.false_and, List.append_assoc, List.nil_append]
              all_goals first | rfl | exact all_next hk mo0 hck | (rw [chsB_take hk, ch_b4 hbt38]; done) | (rw [chsB_take hk, ch_b4 hbt38]; simp [numR_length]; done)
            case hf =>
              intro hb
              try simp only [Bool.or_eq_true, Bool.and_eq_true, Bool.or_eq_false_iff, Bool.and_eq_false_iff, decide_eq_true_eq, decide_eq_false_iff_not] at hb
              have hbt38 := hb
              refine AW.skip ?_
              refine AW.seq ?_
              refine AW.region (cfg := cfg2) ?_
              iterate 2 (apply aops_step (by decide) rfl; · (intro K hK; simp (disch := first | omega | decide) only [go_sem, f4, f16, f17, f18, o4, cellsOf_ch, cellsOf_lsa, chE_dec, many_wi, numS1, numS4, numS8, nm1, nm4, nm8, Bool.false_and, List.append_assoc, List.nil_append]; exact hK _))
              refine aops_nil ?_
              apply AW.cond
              · simp (disch := first | omega | decide) only [go_sem, f4, f16, f17, f18, o4, cellsOf_ch, cellsOf_lsa, chE_dec, many_wi, numS1, numS4, numS8, nm1, nm4, nm8, Bool.false_and, List.append_assoc, List.nil_append]; rfl
              case ht =>
                intro hb
                try simp only [Bool.or_eq_true, Bool.and_eq_true, Bool.or_eq_false_iff, Bool.and_eq_false_iff, decide_eq_true_eq, decide_eq_false_iff_not] at hb
                have hbt40 := hb
                refine AW.exit ?_
                refine AW.seq ?_
                refine AW.region (cfg := cfg2) ?_
                iterate 1 (apply aops_step (by decide) rfl; · (intro K hK; simp (disch := first | omega | decide) only [go_sem, f4, f16, f17, f18, o4, cellsOf_ch, cellsOf_lsa, chE_dec, many_wi, numS1, numS4, numS8, nm1, nm4, nm8, Bool.false_and, List.append_assoc, List.nil_append]; exact hK _))
                apply aops_step (by decide) rfl
                · intro K hK
                  simp (disch := first | omega | decide) only [go_sem, f4, f16, f17, f18, o4, act_fieldAddr_t fo74_2, List.map, cellsOf_ch, cellsOf_lsa, chE_dec, many_wi, numS1, numS4, numS8, nm1, nm4, nm8, Bool.false_and, List.append_assoc, List.nil_append]
                  rw [mwp_fieldAddr_b (by simp (disch := first | omega | decide) only [go_sem, f4, f16, f17, f18, o4, cellsOf_ch, cellsOf_lsa, chE_dec, many_wi, numS1, numS4, numS8, nm1, nm4, nm8, Bool.false_and, List.append_assoc, List.nil_append]; rfl)]
                  exact hK _
                apply aops_step (by decide) rfl
                · intro K hK
                  simp (disch := first | omega | decide) only [go_sem, f4, f16, f17, f18, o4, act_load_t ti3, List.map, cellsOf_ch, cellsOf_lsa, chE_dec, many_wi, numS1, numS4, numS8, nm1, nm4, nm8, Bool.false_and, List.append_assoc, List.nil_append]
                  rw [mwp_load_b1 (by simp (disch := first | omega | decide) only [go_sem, f4, f16, f17, f18, o4, cellsOf_ch, cellsOf_lsa, chE_dec, many_wi, numS1, numS4, numS8, nm1, nm4, nm8, Bool.false_and, List.append_assoc, List.nil_append]; rfl) (by rfl)]
                  exact hK _
                iterate 1 (apply aops_step (by decide) rfl; · (intro K hK; simp (disch := first | omega | decide) only [go_sem, f4, f16, f17, f18, o4, act_convI u3 u97, cellsOf_ch, cellsOf_lsa, chE_dec, many_wi, numS1, numS4, numS8, nm1, nm4, nm8, Bool.false_and, List.append_assoc, List.nil_append]; exact hK _))
                apply aops_step (by decide) rfl
                · intro K hK
                  simp (disch := first | omega | decide) only [go_sem, f4, f16, f17, f18, o4, act_call, List.map, cellsOf_ch, cellsOf_lsa, chE_dec, many_wi, numS1, numS4, numS8, nm1, nm4, nm8, Bool.false_and, List.append_assoc, List.nil_append]
                  apply mwp_call_r rfl rfl rfl
                  · intro Q hQ
                    (simp (disch := first | omega | decide) only [go_sem, f4, f16, f17, f18, o4, peekL, reifyL_nil, reifyL_cons, reify_v, cellsOf_ch, cellsOf_lsa, chE_dec, many_wi, numS1, numS4, numS8, nm1, nm4, nm8, Bool.false_and, List.append_assoc, List.nil_append]; ((((rw [mwp_reify_own (by simp (disch := first | omega | decide) only [go_sem, f4, f16, f17, f18, o4, peekL, reifyL_nil, reifyL_cons, reify_v, cellsOf_ch, cellsOf_lsa, chE_dec, many_wi, numS1, numS4, numS8, nm1, nm4, nm8, Bool.false_and, List.append_assoc, List.nil_append]; rfl)]); (try rw [sub_full (by rfl)])); exact hQ)))
                  · exact O.good_Num _ _ (by (simp [numR_length]; omega)) (by simp) _ _ (by omega)
                  · simp [-List.map_take, -List.map_drop, -List.map_append, -List.map_replicate, -List.reduceReplicate, noPtrL, noPtr, noPtrL_bsl, noPtrL_map, sub]
                  · rw [resOf_own1 (by (simp (disch := decide) only [mset_ne, hr]; done))]
                    exact hK _
                apply aops_step (by decide) rfl
                · intro K hK
                  simp (disch := first | omega | decide) only [go_sem, f4, f16, f17, f18, o4, cellsOf_ch, cellsOf_lsa, chE_dec, many_wi, numS1, numS4, numS8, nm1, nm4, nm8, Bool.false_and, List.append_assoc, List.nil_append]
                  rw [asg_tmp (by simp (disch := first | omega | decide) only [go_sem, f4, f16, f17, f18, o4, cellsOf_ch, cellsOf_lsa, chE_dec, many_wi, numS1, numS4, numS8, nm1, nm4, nm8, Bool.false_and, List.append_assoc, List.nil_append]; rfl)]
                  exact hK _
                refine aops_nil ?_
                refine AW.exit ?_
                refine AW.region (cfg := cfg2) ?_
                iterate 2 (apply aops_step (by decide) rfl; · (intro K hK; simp (disch := first | omega | decide) only [go_sem, f4, f16, f17, f18, o4, cellsOf_ch, cellsOf_lsa, chE_dec, many_wi, numS1, numS4, numS8, nm1, nm4, nm8, Bool.false_and, List.append_assoc, List.nil_append]; exact hK _))
                refine aops_nil ?_
                refine ⟨_, _, rfl, ?_, ?_, ?_, ?_, ?_, ?_, (by intro i; simp [Mem.set, hr]), (by exact hG)⟩ <;> try simp (disch := first | omega | decide) only [go_sem, f4, f16, f17, f18, o4, cellsOf_ch, cellsOf_lsa, chE_dec, many_wi, numS1, numS4, numS8, nm1, nm4, nm8, Bool.false_and, List.append_assoc, List.nil_append]
                all_goals first | rfl | exact all_next hk mo0 hck | (rw [chsB_take hk, ch_b3 hbt40]; done) | (rw [chsB_take hk, ch_b3 hbt40]; simp [numR_length]; done)
              case hf =>
                intro hb
                try simp only [Bool.or_eq_true, Bool.and_eq_true, Bool.or_eq_false_iff, Bool.and_eq_false_iff, decide_eq_true_eq, decide_eq_false_iff_not] at hb
                have hbt40 := hb
                refine AW.skip ?_
                refine AW.exit ?_
                refine AW.region (cfg := cfg2) ?_
                iterate 2 (apply aops_step (by decide) rfl; · (intro K hK; simp (disch := first | omega | decide) only [go_sem, f4, f16, f17, f18, o4, cellsOf_ch, cellsOf_lsa, chE_dec, many_wi, numS1, numS4, numS8, nm1, nm4, nm8, Bool.false_and, List.append_assoc, List.nil_append]; exact hK _))
                refine aops_nil ?_
                refine ⟨_, _, rfl, ?_, ?_, ?_, ?_, ?_, ?_, (by intro i; simp [Mem.set, hr]), (by exact hG)⟩ <;> try simp (disch := first | omega | decide) only [go_sem, f4, f16, f17, f18, o4, cellsOf_ch, cellsOf_lsa, chE_dec, many_wi, numS1, numS4, numS8, nm1, nm4, nm8, Bool.false_and, List.append_assoc, List.nil_append]
                all_goals first | rfl | exact all_next hk mo0 hck | (exfalso; omega)
    · clear f0 hr hG
      rintro σ ⟨s, m, rfl, f4, o4, f16, f17, f18, mo0, hr, hG⟩
      obtain ⟨g4, o4⟩ : ∃ g, m.objs (.var 4) = (g, .arr false 1 (bsl (numR (l.length : Int) 1 ++ chsB (l.take l.length)))) := ⟨_, Prod.ext rfl o4⟩
      rw [o4] at f4
      refine AW.seq ?_
      refine AW.region (cfg := cfg2) ?_
      iterate 1 (apply aops_step (by decide) rfl; · (intro K hK; simp (disch := first | omega | decide) only [go_sem, f4, f16, f17, f18, o4, cellsOf_ch, cellsOf_lsa, chE_dec, many_wi, numS1, numS4, numS8, nm1, nm4, nm8, Bool.false_and, List.append_assoc, List.nil_append]; exact hK _))
      refine aops_nil ?_
      refine AW.seq ?_
      apply AW.cond
      · simp (disch := first | omega | decide) only [go_sem, f4, f16, f17, f18, o4, cellsOf_ch, cellsOf_lsa, chE_dec, many_wi, numS1, numS4, numS8, nm1, nm4, nm8, Bool.false_and, List.append_assoc, List.nil_append]; rfl
      case ht => intro hb; (simp at hb; done)
      case hf =>
      intro hb
      have hbt19 := hb
      refine AW.exit ?_
      refine AW.seq ?_
      refine AW.region (cfg := cfg2) ?_
      iterate 1 (apply aops_step (by decide) rfl; · (intro K hK; simp (disch := first | omega | decide) only [go_sem, f4, f16, f17, f18, o4, cellsOf_ch, cellsOf_lsa, chE_dec, many_wi, numS1, numS4, numS8, nm1, nm4, nm8, Bool.false_and, List.append_assoc, List.nil_append]; exact hK _))
      apply aops_step (by decide) rfl
      · intro K hK
        simp (disch := first | omega | decide) only [go_sem, f4, f16, f17, f18, o4, cellsOf_ch, cellsOf_lsa, chE_dec, many_wi, numS1, numS4, numS8, nm1, nm4, nm8, Bool.false_and, List.append_assoc, List.nil_append]
        rw [asg_mv (by rfl) (by decide) (by simp (disch := first | omega | decide) only [go_sem, f4, f16, f17, f18, o4, cellsOf_ch, cellsOf_lsa, chE_dec, many_wi, numS1, numS4, numS8, nm1, nm4, nm8, Bool.false_and, List.append_assoc, List.nil_append] <;> rfl)]
        exact hK _
      iterate 1 (apply aops_step (by decide) rfl; · (intro K hK; simp (disch := first | omega | decide) only [go_sem, f4, f16, f17, f18, o4, cellsOf_ch, cellsOf_lsa, chE_dec, many_wi, numS1, numS4, numS8, nm1, nm4, nm8, Bool.false_and, List.append_assoc, List.nil_append]; exact hK _))
      refine aops_nil ?_
      refine AW.ret ?_
      refine ⟨.inr rfl, ?_⟩
      (have zz : putOK l = true := by (rw [List.take_length] at mo0; rw [putOK, hmy, mo0]; rfl))
      (obtain ⟨e1, e2⟩ := put_yes zz; rw [e1, e2, zz]; refine leavesN (leaves_own2 2 3 rfl (by simp (disch := first | omega | decide) only [go_sem, f4, f16, f17, f18, o4, cellsOf_ch, cellsOf_lsa, chE_dec, many_wi, numS1, numS4, numS8, nm1, nm4, nm8, Bool.false_and, List.append_assoc, List.nil_append] <;> rfl) (by simp (disch := first | omega | decide) only [go_sem, f4, f16, f17, f18, o4, cellsOf_ch, cellsOf_lsa, chE_dec, many_wi, numS1, numS4, numS8, nm1, nm4, nm8, Bool.false_and, List.append_assoc, List.nil_append] <;> rfl) (by simp (disch := first | omega | decide) only [go_sem, f4, f16, f17, f18, o4, cellsOf_ch, cellsOf_lsa, chE_dec, many_wi, numS1, numS4, numS8, nm1, nm4, nm8, Bool.false_and, List.append_assoc, List.nil_append] <;> rfl) (by decide) (by rw [sub_full (by simp [numR_length])]; simp only [List.take_length, putB]) (by exact hG)))

end Go.Vai.C
