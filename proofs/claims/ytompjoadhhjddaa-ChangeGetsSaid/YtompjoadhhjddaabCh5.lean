import Derived.Test.YtompjoadhhjddaabCh4
import Derived.Test.YtompjoadhhjddaaVaiD
namespace Go.Vai.C
open Go.Proofs Go.Vai Go.Vai.G Go.Vai.L Go.Vai.O
set_option linter.unusedSimpArgs false
set_option linter.unusedVariables false

theorem rdC_sub {m : List (BitVec 8)} (h : (rdC m false).ok = true) : (rdC m false).w = false ∧ (rdC m false).l.length ≤ m.length ∧ (m = [] → (rdC m false).l = []) := by
  obtain ⟨h1, h2, h3, h4⟩ := rdC_cons h
  refine ⟨h4, ?_, fun e => ?_⟩
  · have := congrArg List.length h2
    rw [List.length_append] at this; omega
  · rw [e] at h2
    rw [e]
    exact (List.append_eq_nil_iff.1 h2.symm).2
theorem get_no0 {l : List (BitVec 8)} (h : wi (getN l) 1 40 = false) : chGet l = none := by rw [chGet, h]; rfl
theorem get_no1 {l : List (BitVec 8)} {k : Nat} {xs : List Ch} {m : List (BitVec 8)} (hk : k < (getN l).toNat) (h : rdK (rnL l false 1) k = some (xs, m)) (h2 : (rdC m false).ok = false) : chGet l = none := by
  have : rdK (rnL l false 1) (getN l).toNat = none := rdK_none (k := k + 1) (by rw [rdK_some h, h2]; rfl) (by omega)
  rw [chGet, this]; split <;> rfl
theorem get_no2 {l : List (BitVec 8)} {xs : List Ch} {m : List (BitVec 8)} (h : rdK (rnL l false 1) (getN l).toNat = some (xs, m)) (h2 : decide ((m.length : Int) = 0) = false) : chGet l = none := by
  have h3 : ¬ (m.length : Int) = 0 := of_decide_eq_false h2
  have : m.isEmpty = false := by cases m with
    | nil => exact absurd rfl h3
    | cons x t => rfl
  rw [chGet, h]; simp [this]
theorem get_yes {l : List (BitVec 8)} {xs : List Ch} {m : List (BitVec 8)} (h0 : wi (getN l) 1 40 = true) (h : rdK (rnL l false 1) (getN l).toNat = some (xs, m)) (h2 : decide ((m.length : Int) = 0) = true) : chGet l = some xs := by
  have h3 := of_decide_eq_true h2
  have : m.isEmpty = true := by cases m with
    | nil => rfl
    | cons x t => exfalso; rw [List.length_cons] at h3; omega
  rw [chGet, h, h0]; simp [this]
theorem xs_ne {xs : List Ch} {n : Int} (h : wi n 1 40 = true) (h2 : xs.length = n.toNat) : ¬ xs = [] := fun e => by
  simp only [wi, Bool.and_eq_true, decide_eq_true_eq] at h
  rw [e, List.length_nil] at h2; omega
theorem opt_no {α : Type} {o : Option (List α)} (h : o = none) : o.isNone = true ∧ o.getD [] = [] ∧ (if o.isSome then (0 : Int) else 2) = 2 := by subst h; exact ⟨rfl, rfl, rfl⟩
theorem opt_yes {α : Type} {o : Option (List α)} {xs : List α} (h : o = some xs) : o.isNone = false ∧ o.getD [] = xs ∧ (if o.isSome then (0 : Int) else 2) = 0 := by subst h; exact ⟨rfl, rfl, rfl⟩
set_option maxHeartbeats 4000000 in
set_option maxRecDepth 100000 in
theorem good_GetC (nil : Bool) (l : List (BitVec 8)) (hl : l.length ≤ 140737488355000) (hz : nil = true → l = []) : Good Try.prog 43 [(.sl 1 nil (bsl l), false)] [] [(.sl 6 (chGet l).isNone (((chGet l).getD []).map chA), false), (i64 (if (chGet l).isSome then 0 else 2), false)] [] := by
  refine good_of_body5 36 Try.func43 rfl rfl rfl (by simp) (by simp) (by simp [noPtrL, noPtr]) (by simp [noPtrL, noPtr]) ?_
  intro s m ha hr hv hG
  have f0 : s 0 = .v (.sl 1 nil (bsl l)) := ha 0 _ rfl
  clear ha
  have v0 : 0 ≤ (rnV l false 1) ∧ (rnV l false 1) < 256 := rnV_range1 l false
  have ll1 := rnL_len l false 1
  have lz1 : nil = true → rnL l false 1 = [] := fun h => rnL_nil (hz h) _ _
  refine AW.seq ?_
  refine AW.region (cfg := cfg) ?_
  iterate 2 (apply aops_step (by decide) rfl; · (intro K hK; simp (disch := first | omega | decide) only [go_sem, f0, sz65, cellsOf_ch, cellsOf_lsa]; exact hK _))
  refine aops_nil ?_
  refine AW.seq ?_
  refine AW.region (cfg := cfg) ?_
  iterate 1 (apply aops_step (by decide) rfl; · (intro K hK; simp (disch := first | omega | decide) only [go_sem, f0, cellsOf_ch, cellsOf_lsa]; exact hK _))
  apply aops_step (by decide) rfl
  · intro K hK
    simp (disch := first | omega | decide) only [go_sem, f0, act_call, List.map, cellsOf_ch, cellsOf_lsa]
    apply mwp_call_g rfl rfl rfl
    · intro Q hQ
      (simp (disch := first | omega | decide) only [go_sem, f0, peekL, reifyL_nil, reifyL_cons, reify_v, cellsOf_ch, cellsOf_lsa]; (exact hQ))
    · exact hG
    · exact O.good_Read nil l (by omega) hz
    · simp (disch := first | omega | decide) only [go_sem, f0, cellsOf_ch, cellsOf_lsa]
      exact hK _
  iterate 1 (apply aops_step (by decide) rfl; · (intro K hK; simp (disch := first | omega | decide) only [go_sem, f0, cellsOf_ch, cellsOf_lsa]; exact hK _))
  refine aops_nil ?_
  refine AW.seq ?_
  refine AW.region (cfg := cfg) ?_
  iterate 1 (apply aops_step (by decide) rfl; · (intro K hK; simp (disch := first | omega | decide) only [go_sem, f0, cellsOf_ch, cellsOf_lsa]; exact hK _))
  apply aops_step (by decide) rfl
  · intro K hK
    simp (disch := first | omega | decide) only [go_sem, f0, act_call, List.map, cellsOf_ch, cellsOf_lsa]
    apply mwp_call_g rfl rfl rfl
    · intro Q hQ
      (simp (disch := first | omega | decide) only [go_sem, f0, peekL, reifyL_nil, reifyL_cons, reify_v, cellsOf_ch, cellsOf_lsa]; (exact hQ))
    · rfl
    · exact O.good_NumR nil l false (by omega) hz 1
    · simp (disch := first | omega | decide) only [go_sem, f0, cellsOf_ch, cellsOf_lsa]
      exact hK _
  iterate 2 (apply aops_step (by decide) rfl; · (intro K hK; simp (disch := first | omega | decide) only [go_sem, f0, act_convI u97 u3, cellsOf_ch, cellsOf_lsa]; exact hK _))
  refine aops_nil ?_
  refine AW.seq ?_
  refine AW.seq ?_
  refine AW.region (cfg := cfg) ?_
  iterate 1 (apply aops_step (by decide) rfl; · (intro K hK; simp (disch := first | omega | decide) only [go_sem, f0, cellsOf_ch, cellsOf_lsa]; exact hK _))
  apply aops_step (by decide) rfl
  · intro K hK
    simp (disch := first | omega | decide) only [go_sem, f0, act_call, List.map, cellsOf_ch, cellsOf_lsa]
    apply mwp_call_s rfl rfl rfl
    · intro Q hQ
      (simp (disch := first | omega | decide) only [go_sem, f0, peekL, reifyL_nil, reifyL_cons, reify_v, cellsOf_ch, cellsOf_lsa]; (exact hQ))
    · exact good_withinC ((rnV l false 1)) 1 40
    · simp [-List.map_take, -List.map_drop, -List.map_append, -List.map_replicate, -List.reduceReplicate, noPtrL, noPtr, noPtrL_bsl, noPtrL_map, sub]
    · rfl
    · exact hK _
  iterate 1 (apply aops_step (by decide) rfl; · (intro K hK; simp (disch := first | omega | decide) only [go_sem, f0, cellsOf_ch, cellsOf_lsa]; exact hK _))
  refine aops_nil ?_
  apply AW.cond
  · simp (disch := first | omega | decide) only [go_sem, f0, cellsOf_ch, cellsOf_lsa]; rfl
  case ht =>
    intro hb
    try simp only [Bool.or_eq_true, Bool.and_eq_true, Bool.or_eq_false_iff, Bool.and_eq_false_iff, decide_eq_true_eq, decide_eq_false_iff_not] at hb
    have hbt16 := hb
    refine AW.seq ?_
    refine AW.region (cfg := cfg) ?_
    iterate 2 (apply aops_step (by decide) rfl; · (intro K hK; simp (disch := first | omega | decide) only [go_sem, f0, sz65, cellsOf_ch, cellsOf_lsa]; exact hK _))
    refine aops_nil ?_
    refine AW.ret ?_
    refine ⟨.inr rfl, ?_⟩
    apply Exists.intro
    (have zz : chGet l = none := get_no0 (bnot_t hbt16))
    (obtain ⟨e1, e2, e3⟩ := opt_no zz; rw [e1, e2, e3]; refine leavesN ?_; refine leaves_mwp2 (rs := [.tmp 2, .tmp 3]) rfl ?_; simp (config := {failIfUnchanged := false}) [giveL, srcOne, rehome, freezeN, sub, upd, opn, aLoad, loadL, giveOne, reify, reifyL, readL, readOne, Mwp, M.bind, Mem.set, setAt, cellsL, hG, f0]; rfl)
  case hf =>
    intro hb
    try simp only [Bool.or_eq_true, Bool.and_eq_true, Bool.or_eq_false_iff, Bool.and_eq_false_iff, decide_eq_true_eq, decide_eq_false_iff_not] at hb
    have hbt16 := hb
    refine AW.skip ?_
    refine AW.seq ?_
    refine AW.region (cfg := cfg) ?_
    iterate 1 (apply aops_step (by decide) rfl; · (intro K hK; simp (disch := first | omega | decide) only [go_sem, f0, sz65, cellsOf_ch, cellsOf_lsa]; exact hK _))
    refine aops_nil ?_
    refine AW.seq ?_
    refine AW.seq ?_
    refine AW.region (cfg := cfg) ?_
    iterate 2 (apply aops_step (by decide) rfl; · (intro K hK; simp (disch := first | omega | decide) only [go_sem, f0, cellsOf_ch, cellsOf_lsa]; exact hK _))
    refine aops_nil ?_
    refine AW.block ?_
    refine AW.forN (fun k σ => ∃ (s : Nat → LV) (m : Mem) (xs : List Ch) (m0 : List (BitVec 8)) (wk : Bool), σ = ⟨36, s, m⟩ ∧ s 4 = .v (.gp 0 0) ∧ s 6 = .own (.var 6) (m.objs (.var 6)).1 0 (xs.length) ∧ (m.objs (.var 6)).2 = .arr xs.isEmpty 6 (xs.map chA) ∧ s 17 = .v (i64 ((rnV l false 1))) ∧ s 18 = .v (i64 (k : Int)) ∧ (rdK (rnL l false 1) k = some (xs, m0)) ∧ (wk = false) ∧ (m0.length ≤ l.length) ∧ (nil = true → m0 = []) ∧ (xs.length = k) ∧ (∀ i, (m.objs (.res i)).2 = .dead) ∧ m.G = [[.sl 1 (nil) (bsl (m0)), .b (wk)]]) ((rnV l false 1).toNat) ?_ ?_ ?_
    · refine ⟨_, _, [], (rnL l false 1), (rnW l false 1), rfl, ?_, ?_, ?_, ?_, ?_, ?_, ?_, ?_, ?_, ?_, (by intro i; simp [Mem.set, hr]), (by rfl)⟩ <;> try simp (disch := first | omega | decide) only [go_sem, f0, cellsOf_ch, cellsOf_lsa]
      all_goals first | rfl | omega | exact get_in (b := l) (bnot_f hbt16)
    · clear f0 hr hG
      rintro k σ hk ⟨s, m, xs, m0, wk, rfl, f4, f6, o6, f17, f18, mo0, mo1, mo2, mo3, mo4, hr, hG⟩
      obtain ⟨g6, o6⟩ : ∃ g, m.objs (.var 6) = (g, .arr xs.isEmpty 6 (xs.map chA)) := ⟨_, Prod.ext rfl o6⟩
      rw [o6] at f6
      refine AW.seq ?_
      refine AW.region (cfg := cfg) ?_
      iterate 1 (apply aops_step (by decide) rfl; · (intro K hK; simp (disch := first | omega | decide) only [go_sem, f4, f6, f17, f18, o6, cellsOf_ch, cellsOf_lsa]; exact hK _))
      refine aops_nil ?_
      refine AW.seq ?_
      apply AW.cond
      · simp (disch := first | omega | decide) only [go_sem, f4, f6, f17, f18, o6, cellsOf_ch, cellsOf_lsa]; rfl
      case hf => intro hb; (simp at hb; omega)
      case ht =>
      intro hb
      have hbt19 := hb
      refine AW.skip ?_
      refine AW.seq ?_
      refine AW.block ?_
      refine AW.seq ?_
      obtain rfl : wk = false := mo1
      refine AW.region (cfg := cfg) ?_
      iterate 1 (apply aops_step (by decide) rfl; · (intro K hK; simp (disch := first | omega | decide) only [go_sem, f4, f6, f17, f18, o6, cellsOf_ch, cellsOf_lsa]; exact hK _))
      apply aops_step (by decide) rfl
      · intro K hK
        simp (disch := first | omega | decide) only [go_sem, f4, f6, f17, f18, o6, act_call, List.map, cellsOf_ch, cellsOf_lsa]
        apply mwp_call_g rfl rfl rfl
        · intro Q hQ
          (simp (disch := first | omega | decide) only [go_sem, f4, f6, f17, f18, o6, peekL, reifyL_nil, reifyL_cons, reify_v, cellsOf_ch, cellsOf_lsa]; (exact hQ))
        · exact hG
        · exact good_readC nil m0 false (by omega) mo3
        · simp (disch := first | omega | decide) only [go_sem, f4, f6, f17, f18, o6, cellsOf_ch, cellsOf_lsa]
          exact hK _
      iterate 3 (apply aops_step (by decide) rfl; · (intro K hK; simp (disch := first | omega | decide) only [go_sem, f4, f6, f17, f18, o6, cellsOf_ch, cellsOf_lsa]; exact hK _))
      apply aops_step (by decide) rfl
      · intro K hK
        simp (disch := first | omega | decide) only [go_sem, f4, f6, f17, f18, o6, act_alloc_t ti74, List.map, cellsOf_ch, cellsOf_lsa]
        exact hK _
      apply aops_step0 rfl
      · intro K hK
        simp (disch := first | omega | decide) only [go_sem, f4, f6, f17, f18, o6, act_store_t ti74, List.map, cellsOf_ch, cellsOf_lsa]
        rw [mwp_store_c (by simp (disch := first | omega | decide) only [go_sem, f4, f6, f17, f18, o6, cellsOf_ch, cellsOf_lsa]; rfl) (by rfl) (by rfl) (by rfl) (by simp)]
        try simp only [setAt, cellsL, cellsOf_agg, cellsOf_base, List.map_cons, List.map_nil, List.set_cons_zero, List.set_cons_succ, Nat.reduceAdd, Nat.zero_add, hG]
        exact hK _
      iterate 1 (apply aops_step (by decide) rfl; · (intro K hK; simp (disch := first | omega | decide) only [go_sem, f4, f6, f17, f18, o6, cellsOf_ch, cellsOf_lsa]; exact hK _))
      refine aops_nil ?_
      refine AW.seq ?_
      refine AW.seq ?_
      have lt0 := trivial
      refine AW.region (cfg := cfg) ?_
      iterate 2 (apply aops_step (by decide) rfl; · (intro K hK; simp (disch := first | omega | decide) only [go_sem, f4, f6, f17, f18, o6, cellsOf_ch, cellsOf_lsa]; exact hK _))
      refine aops_nil ?_
      apply AW.cond
      · simp (disch := first | omega | decide) only [go_sem, f4, f6, f17, f18, o6, cellsOf_ch, cellsOf_lsa]; rfl
      case ht =>
        intro hb
        try simp only [Bool.or_eq_true, Bool.and_eq_true, Bool.or_eq_false_iff, Bool.and_eq_false_iff, decide_eq_true_eq, decide_eq_false_iff_not] at hb
        have hbt26 := hb
        refine AW.seq ?_
        refine AW.region (cfg := cfg) ?_
        iterate 2 (apply aops_step (by decide) rfl; · (intro K hK; simp (disch := first | omega | decide) only [go_sem, f4, f6, f17, f18, o6, sz65, cellsOf_ch, cellsOf_lsa]; exact hK _))
        refine aops_nil ?_
        refine AW.ret ?_
        refine ⟨.inr rfl, ?_⟩
        apply Exists.intro
        (have zz : chGet l = none := get_no1 hk mo0 (bnot_t hbt26))
        (obtain ⟨e1, e2, e3⟩ := opt_no zz; rw [e1, e2, e3]; refine leavesN ?_; refine leaves_mwp2 (rs := [.tmp 2, .tmp 3]) rfl ?_; simp (config := {failIfUnchanged := false}) [giveL, srcOne, rehome, freezeN, sub, upd, opn, aLoad, loadL, giveOne, reify, reifyL, readL, readOne, Mwp, M.bind, Mem.set, setAt, cellsL, hG, f4, f6, f17, f18, o6]; rfl)
      case hf =>
        intro hb
        try simp only [Bool.or_eq_true, Bool.and_eq_true, Bool.or_eq_false_iff, Bool.and_eq_false_iff, decide_eq_true_eq, decide_eq_false_iff_not] at hb
        have hbt26 := hb
        refine AW.skip ?_
        have hok : (rdC m0 false).ok = true := by simpa using hbt26
        obtain ⟨rs1, rs2, rs3⟩ := rdC_sub hok
        have rs4 := rdK_some mo0
        rw [hok, if_pos rfl] at rs4
        have rs5 : nil = true → (rdC m0 false).l = [] := fun h => rs3 (mo3 h)
        refine AW.region (cfg := cfg) ?_
        iterate 1 (apply aops_step (by decide) rfl; · (intro K hK; simp (disch := first | omega | decide) only [go_sem, f4, f6, f17, f18, o6, cellsOf_ch, cellsOf_lsa]; exact hK _))
        apply aops_step (by decide) rfl
        · intro K hK
          simp (disch := first | omega | decide) only [go_sem, f4, f6, f17, f18, o6, act_load_t ti74, List.map, cellsOf_ch, cellsOf_lsa]
          rw [mwp_load_bs (by simp (disch := first | omega | decide) only [go_sem, f4, f6, f17, f18, o6, cellsOf_ch, cellsOf_lsa]; rfl) (by simp [setAt])]
          exact hK _
        apply aops_step (by decide) rfl
        · intro K hK
          rw [act_bs el65 ti74]
          (simp [-List.map_take, -List.map_drop, -BitVec.toNat_ofInt, -BitVec.ofInt_natCast, -BitVec.toNat_setWidth, -BitVec.toNat_ushiftRight, -BitVec.toNat_umod, -BitVec.toNat_udiv, go_sem, elems_v, cellishAV, Value.oneCell', isAggAV, partsOf, TI.z, TI.mk1, f4, f6, f17, f18, o6]; exact hK _)
        apply aops_step (by decide) rfl
        · intro K hK
          simp (disch := first | omega | decide) only [go_sem, f4, f6, f17, f18, o6, List.map, cellsOf_ch, cellsOf_lsa]
          apply mwp_append2 el65 ti74 u65
          case hpk => intro Q hQ; (rw [peek_own (by simp (disch := first | omega | decide) only [go_sem, f4, f6, f17, f18, o6, cellsOf_ch, cellsOf_lsa]; rfl)]; (try rw [sub_full (by rfl)]); exact hQ)
          case hs' => rfl
          case ho => simp (disch := first | omega | decide) only [go_sem, f4, f6, f17, f18, o6, cellsOf_ch, cellsOf_lsa]; rfl
          case hsz => rfl
          case hhi => (simp; done)
          case hb => (simp [sub, roomB]; omega)
          case hy => exact all_cells rfl
          case k => (try simp only [List.nil_append, ← List.map_append, Bool.false_and]); exact hK _
        apply aops_step (by decide) rfl
        · intro K hK
          simp (disch := first | omega | decide) only [go_sem, f4, f6, f17, f18, o6, cellsOf_ch, cellsOf_lsa]
          rw [asg_tmp (by simp (disch := first | omega | decide) only [go_sem, f4, f6, f17, f18, o6, cellsOf_ch, cellsOf_lsa]; rfl)]
          exact hK _
        refine aops_nil ?_
        refine AW.region (cfg := cfg) ?_
        iterate 2 (apply aops_step (by decide) rfl; · (intro K hK; simp (disch := first | omega | decide) only [go_sem, f4, f6, f17, f18, o6, cellsOf_ch, cellsOf_lsa]; exact hK _))
        refine aops_nil ?_
        refine ⟨_, _, xs ++ [(rdC m0 false).c], (rdC m0 false).l, (rdC m0 false).w, rfl, ?_, ?_, ?_, ?_, ?_, ?_, ?_, ?_, ?_, ?_, (by intro i; simp [Mem.set, hr]), (by rfl)⟩ <;> try simp (disch := first | omega | decide) only [go_sem, f4, f6, f17, f18, o6, cellsOf_ch, cellsOf_lsa]
        all_goals first | rfl | exact rs4 | exact rs1 | exact rs5 | omega | (simp [chA]; done) | (simp; omega)
    · clear f0 hr hG
      rintro σ ⟨s, m, xs, m0, wk, rfl, f4, f6, o6, f17, f18, mo0, mo1, mo2, mo3, mo4, hr, hG⟩
      obtain ⟨g6, o6⟩ : ∃ g, m.objs (.var 6) = (g, .arr xs.isEmpty 6 (xs.map chA)) := ⟨_, Prod.ext rfl o6⟩
      rw [o6] at f6
      refine AW.seq ?_
      refine AW.region (cfg := cfg) ?_
      iterate 1 (apply aops_step (by decide) rfl; · (intro K hK; simp (disch := first | omega | decide) only [go_sem, f4, f6, f17, f18, o6, cellsOf_ch, cellsOf_lsa]; exact hK _))
      refine aops_nil ?_
      refine AW.seq ?_
      apply AW.cond
      · simp (disch := first | omega | decide) only [go_sem, f4, f6, f17, f18, o6, cellsOf_ch, cellsOf_lsa]; rfl
      case ht => intro hb; (simp at hb; omega)
      case hf =>
      intro hb
      have hbt19 := hb
      refine AW.exit ?_
      refine AW.seq ?_
      refine AW.seq ?_
      obtain rfl : wk = false := mo1
      refine AW.region (cfg := cfg) ?_
      iterate 1 (apply aops_step (by decide) rfl; · (intro K hK; simp (disch := first | omega | decide) only [go_sem, f4, f6, f17, f18, o6, cellsOf_ch, cellsOf_lsa]; exact hK _))
      apply aops_step (by decide) rfl
      · intro K hK
        simp (disch := first | omega | decide) only [go_sem, f4, f6, f17, f18, o6, act_call, List.map, cellsOf_ch, cellsOf_lsa]
        apply mwp_call_g rfl rfl rfl
        · intro Q hQ
          (simp (disch := first | omega | decide) only [go_sem, f4, f6, f17, f18, o6, peekL, reifyL_nil, reifyL_cons, reify_v, cellsOf_ch, cellsOf_lsa]; (exact hQ))
        · exact hG
        · exact O.good_Done nil m0 false (by omega) mo3
        · simp (disch := first | omega | decide) only [go_sem, f4, f6, f17, f18, o6, cellsOf_ch, cellsOf_lsa]
          exact hK _
      iterate 1 (apply aops_step (by decide) rfl; · (intro K hK; simp (disch := first | omega | decide) only [go_sem, f4, f6, f17, f18, o6, cellsOf_ch, cellsOf_lsa]; exact hK _))
      refine aops_nil ?_
      apply AW.cond
      · simp (disch := first | omega | decide) only [go_sem, f4, f6, f17, f18, o6, cellsOf_ch, cellsOf_lsa]; rfl
      case ht =>
        intro hb
        try simp only [Bool.or_eq_true, Bool.and_eq_true, Bool.or_eq_false_iff, Bool.and_eq_false_iff, decide_eq_true_eq, decide_eq_false_iff_not] at hb
        have hbt34 := hb
        refine AW.seq ?_
        refine AW.region (cfg := cfg) ?_
        iterate 2 (apply aops_step (by decide) rfl; · (intro K hK; simp (disch := first | omega | decide) only [go_sem, f4, f6, f17, f18, o6, sz65, cellsOf_ch, cellsOf_lsa]; exact hK _))
        refine aops_nil ?_
        refine AW.ret ?_
        refine ⟨.inr rfl, ?_⟩
        apply Exists.intro
        (have zz : chGet l = none := get_no2 mo0 (bnot_t hbt34))
        (obtain ⟨e1, e2, e3⟩ := opt_no zz; rw [e1, e2, e3]; refine leavesN ?_; refine leaves_mwp2 (rs := [.tmp 2, .tmp 3]) rfl ?_; simp (config := {failIfUnchanged := false}) [giveL, srcOne, rehome, freezeN, sub, upd, opn, aLoad, loadL, giveOne, reify, reifyL, readL, readOne, Mwp, M.bind, Mem.set, setAt, cellsL, hG, f4, f6, f17, f18, o6]; rfl)
      case hf =>
        intro hb
        try simp only [Bool.or_eq_true, Bool.and_eq_true, Bool.or_eq_false_iff, Bool.and_eq_false_iff, decide_eq_true_eq, decide_eq_false_iff_not] at hb
        have hbt34 := hb
        refine AW.skip ?_
        refine AW.seq ?_
        refine AW.region (cfg := cfg) ?_
        iterate 1 (apply aops_step (by decide) rfl; · (intro K hK; simp (disch := first | omega | decide) only [go_sem, f4, f6, f17, f18, o6, cellsOf_ch, cellsOf_lsa]; exact hK _))
        apply aops_step (by decide) rfl
        · intro K hK
          simp (disch := first | omega | decide) only [go_sem, f4, f6, f17, f18, o6, cellsOf_ch, cellsOf_lsa]
          rw [asg_fz (by rfl) (by decide) (by simp (disch := first | omega | decide) only [go_sem, f4, f6, f17, f18, o6, cellsOf_ch, cellsOf_lsa] <;> rfl)]
          exact hK _
        iterate 1 (apply aops_step (by decide) rfl; · (intro K hK; simp (disch := first | omega | decide) only [go_sem, f4, f6, f17, f18, o6, cellsOf_ch, cellsOf_lsa]; exact hK _))
        refine aops_nil ?_
        refine AW.ret ?_
        refine ⟨.inr rfl, ?_⟩
        apply Exists.intro
        (have zz : chGet l = some xs := get_yes (bnot_f hbt16) mo0 (bnot_f hbt34))
        (obtain ⟨e1, e2, e3⟩ := opt_yes zz; rw [e1, e2, e3]; refine leavesN ?_; refine leaves_mwp2 (rs := [.tmp 2, .tmp 3]) rfl ?_; simp (config := {failIfUnchanged := false}) [giveL, srcOne, rehome, freezeN, sub, upd, opn, aLoad, loadL, giveOne, reify, reifyL, readL, readOne, Mwp, M.bind, Mem.set, setAt, cellsL, hG, f4, f6, f17, f18, o6]; exact ⟨⟨xs_ne (bnot_f hbt16) mo4, List.take_of_length_le (by simp)⟩, rfl⟩)

end Go.Vai.C
