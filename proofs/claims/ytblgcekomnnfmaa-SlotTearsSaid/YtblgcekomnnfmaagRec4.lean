import Derived.Test.YtblgcekomnnfmaagRec3
namespace Go.Vai.R
open Go.Proofs Go.Vai Go.Vai.G Go.Vai.L Go.Vai.O Go.Vai.U Go.Vai.Z
set_option linter.unusedSimpArgs false
set_option linter.unusedVariables false

theorem way3 (l : List Page) : l.length = 0 ∨ (∃ h : 0 < l.length, pageOK l[0] = false) ∨ (∃ h : 0 < l.length, pageOK l[0] = true) := by
  by_cases h : l.length = 0
  · exact .inl h
  · have h0 : 0 < l.length := by omega
    cases e : pageOK l[0] with
    | false => exact .inr (.inl ⟨h0, e⟩)
    | true => exact .inr (.inr ⟨h0, e⟩)
theorem emp_succ {l : List Page} {k : Nat} (h : k < l.length) : ((catB (l.take k)).isEmpty && ((l[k]).b.map u8).isEmpty) = (catB (l.take (k + 1))).isEmpty := by rw [catB_succ h, emp_app]
theorem take_gt {l : List Page} {k n : Nat} (h : k < n) (hl : k < l.length) : (l.take n)[k]'(by simp; omega) = l[k] := by simp
theorem fol_bd {f p : Page} {i : Int} (h : follows f p i = true) : p.b.length ≤ 488 := (page_bd (follows_iff.1 h).1).2.2.2.2.2.2
set_option maxHeartbeats 4000000 in
set_option maxRecDepth 100000 in
theorem good_Join (nil : Bool) (l : List Page) (hl : l.length ≤ 9223372036854775807) (pl : ∀ x ∈ l, x.b.length ≤ 9223372036854775807) : Good Try.prog 54 [(.sl 7 nil (l.map pageA), false)] [] [(.sl 1 (joinB l).isEmpty (bsl (joinB l)), false), (i64 (joinN l), false), (.b (joinOK l), false)] [] := by
  refine good_of_body3 60 Try.func54 rfl rfl rfl (by simp) ?_
  intro s m ha hr hv hG
  have f0 : s 0 = .v (.sl 7 nil (l.map pageA)) := ha 0 _ rfl
  clear ha
  refine AW.seq ?_
  refine AW.region (cfg := cfg) ?_
  iterate 3 (apply aops_step (by decide) rfl; · (intro K hK; simp (disch := first | omega | decide) only [go_sem, f0, sz22, cellsOf_page, Int.toNat_zero, Int.toNat_natCast]; exact hK _))
  refine aops_nil ?_
  refine AW.seq ?_
  refine AW.seq ?_
  rcases way3 l with h0 | ⟨h0, hp⟩ | ⟨h0, hp⟩
  · skip
    have hlz : ((l.length : Nat) : Int) = 0 := by omega
    have zo := join_no0 h0
    have hpo := d00
    refine AW.region (cfg := cfg) ?_
    iterate 4 (apply aops_step (by decide) rfl; · (intro K hK; simp (disch := first | omega | decide) only [go_sem, f0, hlz, hpo, List.map, List.length_map, aops_len u91, cellsOf_page, Int.toNat_zero, Int.toNat_natCast]; exact hK _))
    apply aops_skip' (by decide) rfl
    apply aops_skip' (by decide) rfl
    apply aops_skip' (by decide) rfl
    apply aops_skip' (by decide) rfl
    apply aops_skip' (by decide) rfl
    iterate 2 (apply aops_step (by decide) rfl; · (intro K hK; simp (disch := first | omega | decide) only [go_sem, f0, hlz, hpo, cellsOf_page, Int.toNat_zero, Int.toNat_natCast]; exact hK _))
    apply aops_skip' (by decide) rfl
    apply aops_skip' (by decide) rfl
    apply aops_skip' (by decide) rfl
    apply aops_skip' (by decide) rfl
    apply aops_skip' (by decide) rfl
    apply aops_skip' (by decide) rfl
    apply aops_skip' (by decide) rfl
    iterate 1 (apply aops_step (by decide) rfl; · (intro K hK; simp (disch := first | omega | decide) only [go_sem, f0, hlz, hpo, cellsOf_page, Int.toNat_zero, Int.toNat_natCast]; exact hK _))
    refine aops_nil ?_
    apply AW.cond
    · simp (disch := first | omega | decide) only [go_sem, f0, hlz, hpo, cellsOf_page, Int.toNat_zero, Int.toNat_natCast]; rfl
    case hf => intro hb; simp at hb
    case ht =>
    intro hb
    have hbt27 := hb
    refine AW.seq ?_
    refine AW.region (cfg := cfg) ?_
    iterate 3 (apply aops_step (by decide) rfl; · (intro K hK; simp (disch := first | omega | decide) only [go_sem, f0, hlz, hpo, sz22, cellsOf_page, Int.toNat_zero, Int.toNat_natCast]; exact hK _))
    refine aops_nil ?_
    refine AW.ret ?_
    refine ⟨.inr rfl, ?_⟩
    have hcl := trivial
    (have zz := zo)
    (obtain ⟨e1, e2, e3⟩ := join_f zz; rw [e1, e2, e3]; refine leavesN ?_; refine leaves_mwp2 (rs := [.tmp 2, .tmp 3, .tmp 4]) rfl ?_; simp (config := {failIfUnchanged := false}) [giveL, srcOne, rehome, freezeN, sub, upd, opn, aLoad, loadL, giveOne, reify, reifyL, readL, readOne, Mwp, M.bind, Mem.set, setAt, cellsL, hG, f0, hlz, hpo]; done)
  · skip
    have hlz : decide (((l.length : Nat) : Int) = 0) = false := decide_eq_false (by omega)
    have zo := join_no1 h0 hp
    have hpl := pl l[0] (List.getElem_mem h0)
    have hpo := hp
    refine AW.region (cfg := cfg) ?_
    iterate 5 (apply aops_step (by decide) rfl; · (intro K hK; simp (disch := first | omega | decide) only [go_sem, f0, hlz, hpo, List.map, List.length_map, aops_len u91, cellsOf_page, Int.toNat_zero, Int.toNat_natCast]; exact hK _))
    apply aops_step (by decide) rfl
    · intro K hK
      simp (disch := first | omega | decide) only [go_sem, f0, hlz, hpo, act_indexAddr_s u91 ti58, List.map, cellsOf_page, Int.toNat_zero, Int.toNat_natCast]
      skip
      exact hK _
    apply aops_step (by decide) rfl
    · intro K hK
      simp (disch := first | omega | decide) only [go_sem, f0, hlz, hpo, act_load_t ti58, List.map, cellsOf_page, Int.toNat_zero, Int.toNat_natCast]
      rw [mwp_load_is (by simp)]
      exact hK _
    apply aops_step (by decide) rfl
    · intro K hK
      simp (disch := first | omega | decide) only [go_sem, f0, hlz, hpo, act_call, List.map, cellsOf_page, Int.toNat_zero, Int.toNat_natCast]
      apply mwp_call_s rfl rfl rfl
      · intro Q hQ
        (simp (disch := first | omega | decide) only [go_sem, f0, hlz, hpo, peekL, reifyL_nil, reifyL_cons, reify_v, cellsOf_page, Int.toNat_zero, Int.toNat_natCast]; (exact hQ))
      · exact good_right l[0] (by omega)
      · simp [-List.map_take, -List.map_drop, -List.map_append, -List.map_replicate, -List.reduceReplicate, noPtrL, noPtr, noPtrL_bsl, noPtrL_map, sub]
      · rfl
      · exact hK _
    iterate 3 (apply aops_step (by decide) rfl; · (intro K hK; simp (disch := first | omega | decide) only [go_sem, f0, hlz, hpo, cellsOf_page, Int.toNat_zero, Int.toNat_natCast]; exact hK _))
    apply aops_skip' (by decide) rfl
    apply aops_skip' (by decide) rfl
    apply aops_skip' (by decide) rfl
    apply aops_skip' (by decide) rfl
    apply aops_skip' (by decide) rfl
    apply aops_skip' (by decide) rfl
    apply aops_skip' (by decide) rfl
    iterate 1 (apply aops_step (by decide) rfl; · (intro K hK; simp (disch := first | omega | decide) only [go_sem, f0, hlz, hpo, cellsOf_page, Int.toNat_zero, Int.toNat_natCast]; exact hK _))
    refine aops_nil ?_
    apply AW.cond
    · simp (disch := first | omega | decide) only [go_sem, f0, hlz, hpo, cellsOf_page, Int.toNat_zero, Int.toNat_natCast]; rfl
    case hf => intro hb; simp at hb
    case ht =>
    intro hb
    have hbt27 := hb
    refine AW.seq ?_
    refine AW.region (cfg := cfg) ?_
    iterate 3 (apply aops_step (by decide) rfl; · (intro K hK; simp (disch := first | omega | decide) only [go_sem, f0, hlz, hpo, sz22, cellsOf_page, Int.toNat_zero, Int.toNat_natCast]; exact hK _))
    refine aops_nil ?_
    refine AW.ret ?_
    refine ⟨.inr rfl, ?_⟩
    have hcl := trivial
    (have zz := zo)
    (obtain ⟨e1, e2, e3⟩ := join_f zz; rw [e1, e2, e3]; refine leavesN ?_; refine leaves_mwp2 (rs := [.tmp 2, .tmp 3, .tmp 4]) rfl ?_; simp (config := {failIfUnchanged := false}) [giveL, srcOne, rehome, freezeN, sub, upd, opn, aLoad, loadL, giveOne, reify, reifyL, readL, readOne, Mwp, M.bind, Mem.set, setAt, cellsL, hG, f0, hlz, hpo]; done)
  · skip
    have hlz : decide (((l.length : Nat) : Int) = 0) = false := decide_eq_false (by omega)
    have hpl := pl l[0] (List.getElem_mem h0)
    have hpo := hp
    obtain ⟨j1, j2, j3⟩ := jN_is h0 hp
    have j6 : (l[0].parts).toNat = jN l := by omega
    refine AW.region (cfg := cfg) ?_
    iterate 5 (apply aops_step (by decide) rfl; · (intro K hK; simp (disch := first | omega | decide) only [go_sem, f0, hlz, hpo, List.map, List.length_map, aops_len u91, cellsOf_page, Int.toNat_zero, Int.toNat_natCast]; exact hK _))
    apply aops_step (by decide) rfl
    · intro K hK
      simp (disch := first | omega | decide) only [go_sem, f0, hlz, hpo, act_indexAddr_s u91 ti58, List.map, cellsOf_page, Int.toNat_zero, Int.toNat_natCast]
      skip
      exact hK _
    apply aops_step (by decide) rfl
    · intro K hK
      simp (disch := first | omega | decide) only [go_sem, f0, hlz, hpo, act_load_t ti58, List.map, cellsOf_page, Int.toNat_zero, Int.toNat_natCast]
      rw [mwp_load_is (by simp)]
      exact hK _
    apply aops_step (by decide) rfl
    · intro K hK
      simp (disch := first | omega | decide) only [go_sem, f0, hlz, hpo, act_call, List.map, cellsOf_page, Int.toNat_zero, Int.toNat_natCast]
      apply mwp_call_s rfl rfl rfl
      · intro Q hQ
        (simp (disch := first | omega | decide) only [go_sem, f0, hlz, hpo, peekL, reifyL_nil, reifyL_cons, reify_v, cellsOf_page, Int.toNat_zero, Int.toNat_natCast]; (exact hQ))
      · exact good_right l[0] (by omega)
      · simp [-List.map_take, -List.map_drop, -List.map_append, -List.map_replicate, -List.reduceReplicate, noPtrL, noPtr, noPtrL_bsl, noPtrL_map, sub]
      · rfl
      · exact hK _
    iterate 6 (apply aops_step (by decide) rfl; · (intro K hK; simp (disch := first | omega | decide) only [go_sem, f0, hlz, hpo, List.map, List.length_map, aops_len u91, cellsOf_page, Int.toNat_zero, Int.toNat_natCast]; exact hK _))
    apply aops_step (by decide) rfl
    · intro K hK
      simp (disch := first | omega | decide) only [go_sem, f0, hlz, hpo, act_indexAddr_s u91 ti58, List.map, cellsOf_page, Int.toNat_zero, Int.toNat_natCast]
      skip
      exact hK _
    apply aops_step (by decide) rfl
    · intro K hK
      simp (disch := first | omega | decide) only [go_sem, f0, hlz, hpo, act_fieldAddr_t fo58_5, List.map, cellsOf_page, Int.toNat_zero, Int.toNat_natCast]
      skip
      exact hK _
    apply aops_step (by decide) rfl
    · intro K hK
      simp (disch := first | omega | decide) only [go_sem, f0, hlz, hpo, act_load_t ti3, List.map, cellsOf_page, Int.toNat_zero, Int.toNat_natCast]
      rw [mwp_load_i1 (by rfl)]
      exact hK _
    iterate 2 (apply aops_step (by decide) rfl; · (intro K hK; simp (disch := first | omega | decide) only [go_sem, f0, hlz, hpo, cellsOf_page, Int.toNat_zero, Int.toNat_natCast]; exact hK _))
    refine aops_nil ?_
    apply AW.cond
    · simp (disch := first | omega | decide) only [go_sem, f0, hlz, hpo, cellsOf_page, Int.toNat_zero, Int.toNat_natCast]; rfl
    case ht =>
      intro hb
      try simp only [Bool.or_eq_true, Bool.and_eq_true, Bool.or_eq_false_iff, Bool.and_eq_false_iff, decide_eq_true_eq, decide_eq_false_iff_not] at hb
      have hbt27 := hb
      refine AW.seq ?_
      refine AW.region (cfg := cfg) ?_
      iterate 3 (apply aops_step (by decide) rfl; · (intro K hK; simp (disch := first | omega | decide) only [go_sem, f0, hlz, hpo, sz22, cellsOf_page, Int.toNat_zero, Int.toNat_natCast]; exact hK _))
      refine aops_nil ?_
      refine AW.ret ?_
      refine ⟨.inr rfl, ?_⟩
      have hcl := trivial
      (have zz := join_no2 h0 hbt27)
      (obtain ⟨e1, e2, e3⟩ := join_f zz; rw [e1, e2, e3]; refine leavesN ?_; refine leaves_mwp2 (rs := [.tmp 2, .tmp 3, .tmp 4]) rfl ?_; simp (config := {failIfUnchanged := false}) [giveL, srcOne, rehome, freezeN, sub, upd, opn, aLoad, loadL, giveOne, reify, reifyL, readL, readOne, Mwp, M.bind, Mem.set, setAt, cellsL, hG, f0, hlz, hpo]; done)
    case hf =>
      intro hb
      try simp only [Bool.or_eq_true, Bool.and_eq_true, Bool.or_eq_false_iff, Bool.and_eq_false_iff, decide_eq_true_eq, decide_eq_false_iff_not] at hb
      have hbt27 := hb
      refine AW.skip ?_
      refine AW.seq ?_
      have hhd := head_yes h0 hp (by omega)
      have j5 : jN l ≤ l.length := by omega
      have j7 : (((l.take (jN l)).length : Nat) : Int) = (jN l : Int) := by (simp; omega)
      refine AW.region (cfg := cfg) ?_
      iterate 1 (apply aops_step (by decide) rfl; · (intro K hK; simp (disch := first | omega | decide) only [go_sem, f0, hlz, hpo, j6, j7, cellsOf_page, Int.toNat_zero, Int.toNat_natCast]; exact hK _))
      apply aops_step (by decide) rfl
      · intro K hK
        simp (disch := first | omega | decide) only [go_sem, f0, hlz, hpo, j6, j7, act_indexAddr_s u91 ti58, List.map, cellsOf_page, Int.toNat_zero, Int.toNat_natCast]
        skip
        exact hK _
      apply aops_step (by decide) rfl
      · intro K hK
        simp (disch := first | omega | decide) only [go_sem, f0, hlz, hpo, j6, j7, act_fieldAddr_t fo58_5, List.map, cellsOf_page, Int.toNat_zero, Int.toNat_natCast]
        skip
        exact hK _
      apply aops_step (by decide) rfl
      · intro K hK
        simp (disch := first | omega | decide) only [go_sem, f0, hlz, hpo, j6, j7, act_load_t ti3, List.map, cellsOf_page, Int.toNat_zero, Int.toNat_natCast]
        rw [mwp_load_i1 (by rfl)]
        exact hK _
      iterate 1 (apply aops_step (by decide) rfl; · (intro K hK; simp (disch := first | omega | decide) only [go_sem, f0, hlz, hpo, j6, j7, cellsOf_page, Int.toNat_zero, Int.toNat_natCast]; exact hK _))
      refine aops_nil ?_
      refine AW.seq ?_
      refine AW.region (cfg := cfg) ?_
      iterate 1 (apply aops_step (by decide) rfl; · (intro K hK; simp (disch := first | omega | decide) only [go_sem, f0, hlz, hpo, j6, j7, sz22, cellsOf_page, Int.toNat_zero, Int.toNat_natCast]; exact hK _))
      refine aops_nil ?_
      refine AW.seq ?_
      refine AW.seq ?_
      refine AW.region (cfg := cfg) ?_
      iterate 5 (apply aops_step (by decide) rfl; · (intro K hK; simp (disch := first | omega | decide) only [go_sem, f0, hlz, hpo, j6, j7, act_slice_s u91 ti58, List.map, List.length_map, aops_len u91, cellsOf_page, Int.toNat_zero, Int.toNat_natCast]; exact hK _))
      refine aops_nil ?_
      refine AW.block ?_
      refine AW.forN (fun k σ => ∃ s m, σ = ⟨60, s, m⟩ ∧ s 0 = .v (.sl 7 nil (l.map pageA)) ∧ s 5 = .v (i64 (l[0]).parts) ∧ s 6 = .own (.var 6) (m.objs (.var 6)).1 0 ((catB (l.take k)).length) ∧ (m.objs (.var 6)).2 = .arr (catB (l.take k)).isEmpty 1 (bsl (catB (l.take k))) ∧ s 34 = .v (.sl 7 nil ((l.take (jN l)).map pageA)) ∧ s 35 = .v (i64 (jN l : Int)) ∧ s 36 = .v (i64 (k : Int)) ∧ (allF l k = true) ∧ ((catB (l.take k)).length ≤ 488 * k) ∧ (∀ i, (m.objs (.res i)).2 = .dead) ∧ m.G = []) (jN l) ?_ ?_ ?_
      · refine ⟨_, _, rfl, ?_, ?_, ?_, ?_, ?_, ?_, ?_, ?_, ?_, (by intro i; simp [Mem.set, hr]), (by exact hG)⟩ <;> try simp (disch := first | omega | decide) only [go_sem, f0, hlz, hpo, j6, j7, cellsOf_page, Int.toNat_zero, Int.toNat_natCast]
        all_goals first | rfl | (simp [catB]; done)
      · clear f0 hr hG
        rintro k σ hk ⟨s, m, rfl, f0, f5, f6, o6, f34, f35, f36, mo0, mo1, hr, hG⟩
        obtain ⟨g6, o6⟩ : ∃ g, m.objs (.var 6) = (g, .arr (catB (l.take k)).isEmpty 1 (bsl (catB (l.take k)))) := ⟨_, Prod.ext rfl o6⟩
        rw [o6] at f6
        refine AW.seq ?_
        refine AW.region (cfg := cfg) ?_
        iterate 1 (apply aops_step (by decide) rfl; · (intro K hK; simp (disch := first | omega | decide) only [go_sem, f0, f5, f6, f34, f35, f36, o6, hlz, hpo, j6, j7, cellsOf_page, Int.toNat_zero, Int.toNat_natCast]; exact hK _))
        refine aops_nil ?_
        refine AW.seq ?_
        apply AW.cond
        · simp (disch := first | omega | decide) only [go_sem, f0, f5, f6, f34, f35, f36, o6, hlz, hpo, j6, j7, cellsOf_page, Int.toNat_zero, Int.toNat_natCast]; rfl
        case hf => intro hb; (simp at hb; omega)
        case ht =>
        intro hb
        have hbt37 := hb
        refine AW.skip ?_
        refine AW.seq ?_
        refine AW.block ?_
        refine AW.seq ?_
        have hk2 : k < l.length := by omega
        have hpk := pl l[k] (List.getElem_mem hk2)
        have tg := take_gt (l := l) hk hk2
        have hkt : k < (l.take (jN l)).length := by (simp; omega)
        refine AW.region (cfg := cfg) ?_
        iterate 1 (apply aops_step (by decide) rfl; · (intro K hK; simp (disch := first | omega | decide) only [go_sem, f0, f5, f6, f34, f35, f36, o6, hlz, hpo, j6, j7, tg, cellsOf_page, Int.toNat_zero, Int.toNat_natCast]; exact hK _))
        apply aops_step (by decide) rfl
        · intro K hK
          simp (disch := first | omega | decide) only [go_sem, f0, f5, f6, f34, f35, f36, o6, hlz, hpo, j6, j7, tg, act_indexAddr_s u91 ti58, List.map, cellsOf_page, Int.toNat_zero, Int.toNat_natCast]
          skip
          exact hK _
        apply aops_step (by decide) rfl
        · intro K hK
          simp (disch := first | omega | decide) only [go_sem, f0, f5, f6, f34, f35, f36, o6, hlz, hpo, j6, j7, tg, act_load_t ti58, List.map, cellsOf_page, Int.toNat_zero, Int.toNat_natCast]
          rw [mwp_load_is (by simp)]
          exact hK _
        apply aops_step (by decide) rfl
        · intro K hK
          simp (disch := first | omega | decide) only [go_sem, f0, f5, f6, f34, f35, f36, o6, hlz, hpo, j6, j7, tg, act_alloc_t ti58, List.map, cellsOf_page, Int.toNat_zero, Int.toNat_natCast]
          exact hK _
        iterate 1 (apply aops_step (by decide) rfl; · (intro K hK; simp (disch := first | omega | decide) only [go_sem, f0, f5, f6, f34, f35, f36, o6, hlz, hpo, j6, j7, tg, cellsOf_page, Int.toNat_zero, Int.toNat_natCast]; exact hK _))
        apply aops_step0 rfl
        · intro K hK
          simp (disch := first | omega | decide) only [go_sem, f0, f5, f6, f34, f35, f36, o6, hlz, hpo, j6, j7, tg, act_store_t ti58, List.map, cellsOf_page, Int.toNat_zero, Int.toNat_natCast]
          rw [mwp_store_c (by simp (disch := first | omega | decide) only [go_sem, f0, f5, f6, f34, f35, f36, o6, hlz, hpo, j6, j7, tg, cellsOf_page, Int.toNat_zero, Int.toNat_natCast]; rfl) (by rfl) (by rfl) (by rfl) (by simp)]
          try simp only [setAt, cellsL, cellsOf_agg, cellsOf_base, List.map_cons, List.map_nil, List.set_cons_zero, List.set_cons_succ, Nat.reduceAdd, Nat.zero_add, hG]
          exact hK _
        refine aops_nil ?_
        refine AW.seq ?_
        refine AW.seq ?_
        refine AW.draw (cfg := cfg) (by kernel_rfl) (by kernel_rfl) (by kernel_rfl) ?_
        iterate 1 (apply adraw_step rfl; · (intro K hK; simp (disch := first | omega | decide) only [go_sem, f0, f5, f6, f34, f35, f36, o6, hlz, hpo, j6, j7, tg, cellsOf_page, Int.toNat_zero, Int.toNat_natCast]; exact hK))
        apply adraw_step rfl
        · intro K hK
          simp (disch := first | omega | decide) only [go_sem, f0, f5, f6, f34, f35, f36, o6, hlz, hpo, j6, j7, tg, act_indexAddr_s u91 ti58, List.map, cellsOf_page, Int.toNat_zero, Int.toNat_natCast]
          skip
          exact hK
        apply adraw_step rfl
        · intro K hK
          simp (disch := first | omega | decide) only [go_sem, f0, f5, f6, f34, f35, f36, o6, hlz, hpo, j6, j7, tg, act_load_t ti58, List.map, cellsOf_page, Int.toNat_zero, Int.toNat_natCast]
          rw [mwp_load_is (by simp)]
          exact hK
        apply adraw_step rfl
        · intro K hK
          simp (disch := first | omega | decide) only [go_sem, f0, f5, f6, f34, f35, f36, o6, hlz, hpo, j6, j7, tg, act_load_t ti58, List.map, cellsOf_page, Int.toNat_zero, Int.toNat_natCast]
          rw [mwp_load_bs (by simp (disch := first | omega | decide) only [go_sem, f0, f5, f6, f34, f35, f36, o6, hlz, hpo, j6, j7, tg, cellsOf_page, Int.toNat_zero, Int.toNat_natCast]; rfl) (by simp [setAt])]
          exact hK
        iterate 1 (apply adraw_step rfl; · (intro K hK; simp (disch := first | omega | decide) only [go_sem, f0, f5, f6, f34, f35, f36, o6, hlz, hpo, j6, j7, tg, cellsOf_page, Int.toNat_zero, Int.toNat_natCast]; exact hK))
        apply adraw_step rfl
        · intro K hK
          simp (disch := first | omega | decide) only [go_sem, f0, f5, f6, f34, f35, f36, o6, hlz, hpo, j6, j7, tg, act_call, List.map, cellsOf_page, Int.toNat_zero, Int.toNat_natCast]
          apply mwp_call_s rfl rfl rfl
          · intro Q hQ
            (simp (disch := first | omega | decide) only [go_sem, f0, f5, f6, f34, f35, f36, o6, hlz, hpo, j6, j7, tg, peekL, reifyL_nil, reifyL_cons, reify_v, cellsOf_page, Int.toNat_zero, Int.toNat_natCast]; (exact hQ))
          · exact good_follows l[0] (by omega) l[k] (by omega) (k : Int) (by omega)
          · simp [-List.map_take, -List.map_drop, -List.map_append, -List.map_replicate, -List.reduceReplicate, noPtrL, noPtr, noPtrL_bsl, noPtrL_map, sub]
          · rfl
          · exact hK
        iterate 1 (apply adraw_step rfl; · (intro K hK; simp (disch := first | omega | decide) only [go_sem, f0, f5, f6, f34, f35, f36, o6, hlz, hpo, j6, j7, tg, cellsOf_page, Int.toNat_zero, Int.toNat_natCast]; exact hK))
        refine adraw_nil (by kernel_rfl) ?_
        apply AW.cond
        · simp (disch := first | omega | decide) only [go_sem, f0, f5, f6, f34, f35, f36, o6, hlz, hpo, j6, j7, tg, cellsOf_page, Int.toNat_zero, Int.toNat_natCast]; rfl
        case ht =>
          intro hb
          try simp only [Bool.or_eq_true, Bool.and_eq_true, Bool.or_eq_false_iff, Bool.and_eq_false_iff, decide_eq_true_eq, decide_eq_false_iff_not] at hb
          have hbt47 := hb
          refine AW.seq ?_
          refine AW.region (cfg := cfg) ?_
          iterate 3 (apply aops_step (by decide) rfl; · (intro K hK; simp (disch := first | omega | decide) only [go_sem, f0, f5, f6, f34, f35, f36, o6, hlz, hpo, j6, j7, tg, sz22, cellsOf_page, Int.toNat_zero, Int.toNat_natCast]; exact hK _))
          refine aops_nil ?_
          refine AW.ret ?_
          refine ⟨.inr rfl, ?_⟩
          have hcl := trivial
          (have zz := join_no3 h0 hk2 hk (by simpa using hbt47))
          (obtain ⟨e1, e2, e3⟩ := join_f zz; rw [e1, e2, e3]; refine leavesN ?_; refine leaves_mwp2 (rs := [.tmp 2, .tmp 3, .tmp 4]) rfl ?_; simp (config := {failIfUnchanged := false}) [giveL, srcOne, rehome, freezeN, sub, upd, opn, aLoad, loadL, giveOne, reify, reifyL, readL, readOne, Mwp, M.bind, Mem.set, setAt, cellsL, hG, f0, f5, f6, f34, f35, f36, o6, hlz, hpo, j6, j7, tg]; done)
        case hf =>
          intro hb
          try simp only [Bool.or_eq_true, Bool.and_eq_true, Bool.or_eq_false_iff, Bool.and_eq_false_iff, decide_eq_true_eq, decide_eq_false_iff_not] at hb
          have hbt47 := hb
          refine AW.skip ?_
          have hfo : follows l[0] l[k] k = true := by simpa using hbt47
          have hfb := fol_bd hfo
          have hcl := catB_succ hk2
          refine AW.region (cfg := cfg) ?_
          iterate 1 (apply aops_step (by decide) rfl; · (intro K hK; simp (disch := first | omega | decide) only [go_sem, f0, f5, f6, f34, f35, f36, o6, hlz, hpo, j6, j7, tg, cellsOf_page, Int.toNat_zero, Int.toNat_natCast]; exact hK _))
          apply aops_step (by decide) rfl
          · intro K hK
            simp (disch := first | omega | decide) only [go_sem, f0, f5, f6, f34, f35, f36, o6, hlz, hpo, j6, j7, tg, act_fieldAddr_t fo58_6, List.map, cellsOf_page, Int.toNat_zero, Int.toNat_natCast]
            rw [mwp_fieldAddr_b (by simp (disch := first | omega | decide) only [go_sem, f0, f5, f6, f34, f35, f36, o6, hlz, hpo, j6, j7, tg, cellsOf_page, Int.toNat_zero, Int.toNat_natCast]; rfl)]
            exact hK _
          apply aops_step (by decide) rfl
          · intro K hK
            simp (disch := first | omega | decide) only [go_sem, f0, f5, f6, f34, f35, f36, o6, hlz, hpo, j6, j7, tg, act_load_t ti22, List.map, cellsOf_page, Int.toNat_zero, Int.toNat_natCast]
            rw [mwp_load_b1 (by simp (disch := first | omega | decide) only [go_sem, f0, f5, f6, f34, f35, f36, o6, hlz, hpo, j6, j7, tg, cellsOf_page, Int.toNat_zero, Int.toNat_natCast]; rfl) (by rfl)]
            exact hK _
          apply aops_step (by decide) rfl
          · intro K hK
            simp (disch := first | omega | decide) only [go_sem, f0, f5, f6, f34, f35, f36, o6, hlz, hpo, j6, j7, tg, List.map, cellsOf_page, Int.toNat_zero, Int.toNat_natCast]
            apply mwp_append2 el22 ti5 u22
            case hpk => intro Q hQ; exact hQ
            case hs' => rfl
            case ho => simp (disch := first | omega | decide) only [go_sem, f0, f5, f6, f34, f35, f36, o6, hlz, hpo, j6, j7, tg, cellsOf_page, Int.toNat_zero, Int.toNat_natCast]; rfl
            case hsz => rfl
            case hhi => (simp; done)
            case hb => (simp only [List.length_cons, List.length_nil, List.length_map, Nat.zero_add, Nat.reduceAdd, roomB]; omega)
            case hy => (simp [sub, cellsOf]; done)
            case k => (try simp only [List.nil_append, ← List.map_append, Bool.false_and]); exact hK _
          apply aops_step (by decide) rfl
          · intro K hK
            simp (disch := first | omega | decide) only [go_sem, f0, f5, f6, f34, f35, f36, o6, hlz, hpo, j6, j7, tg, cellsOf_page, Int.toNat_zero, Int.toNat_natCast]
            rw [asg_tmp (by simp (disch := first | omega | decide) only [go_sem, f0, f5, f6, f34, f35, f36, o6, hlz, hpo, j6, j7, tg, cellsOf_page, Int.toNat_zero, Int.toNat_natCast]; rfl)]
            exact hK _
          refine aops_nil ?_
          refine AW.region (cfg := cfg) ?_
          iterate 2 (apply aops_step (by decide) rfl; · (intro K hK; simp (disch := first | omega | decide) only [go_sem, f0, f5, f6, f34, f35, f36, o6, hlz, hpo, j6, j7, tg, cellsOf_page, Int.toNat_zero, Int.toNat_natCast]; exact hK _))
          refine aops_nil ?_
          refine ⟨_, _, rfl, ?_, ?_, ?_, ?_, ?_, ?_, ?_, ?_, ?_, (by intro i; simp [Mem.set, hr]), (by exact hG)⟩ <;> try simp (disch := first | omega | decide) only [go_sem, f0, f5, f6, f34, f35, f36, o6, hlz, hpo, j6, j7, tg, cellsOf_page, Int.toNat_zero, Int.toNat_natCast]
          all_goals first | rfl | exact allF_one h0 hk2 mo0 hfo | (rw [hcl]; simp; omega) | (rw [hcl]; simp; done) | (rw [emp_succ hk2, hcl]; done)
      · clear f0 hr hG
        rintro σ ⟨s, m, rfl, f0, f5, f6, o6, f34, f35, f36, mo0, mo1, hr, hG⟩
        obtain ⟨g6, o6⟩ : ∃ g, m.objs (.var 6) = (g, .arr (catB (l.take (jN l))).isEmpty 1 (bsl (catB (l.take (jN l))))) := ⟨_, Prod.ext rfl o6⟩
        rw [o6] at f6
        refine AW.seq ?_
        refine AW.region (cfg := cfg) ?_
        iterate 1 (apply aops_step (by decide) rfl; · (intro K hK; simp (disch := first | omega | decide) only [go_sem, f0, f5, f6, f34, f35, f36, o6, hlz, hpo, j6, j7, cellsOf_page, Int.toNat_zero, Int.toNat_natCast]; exact hK _))
        refine aops_nil ?_
        refine AW.seq ?_
        apply AW.cond
        · simp (disch := first | omega | decide) only [go_sem, f0, f5, f6, f34, f35, f36, o6, hlz, hpo, j6, j7, cellsOf_page, Int.toNat_zero, Int.toNat_natCast]; rfl
        case ht => intro hb; (simp at hb; done)
        case hf =>
        intro hb
        have hbt37 := hb
        refine AW.exit ?_
        refine AW.seq ?_
        refine AW.seq ?_
        refine AW.region (cfg := cfg) ?_
        iterate 1 (apply aops_step (by decide) rfl; · (intro K hK; simp (disch := first | omega | decide) only [go_sem, f0, f5, f6, f34, f35, f36, o6, hlz, hpo, j6, j7, cellsOf_page, Int.toNat_zero, Int.toNat_natCast]; exact hK _))
        apply aops_step (by decide) rfl
        · intro K hK
          simp (disch := first | omega | decide) only [go_sem, f0, f5, f6, f34, f35, f36, o6, hlz, hpo, j6, j7, List.map, List.length_map, aops_len u22, cellsOf_page, Int.toNat_zero, Int.toNat_natCast]
          ((rw [mwp_len_own u22 (by simp (disch := first | omega | decide) only [go_sem, f0, f5, f6, f34, f35, f36, o6, hlz, hpo, j6, j7, List.map, cellsOf_page, Int.toNat_zero, Int.toNat_natCast]; rfl)]); (try rw [sub_full (by (simp only [List.length_map, List.length_replicate]; done))]); (try simp only [List.length_map]); exact hK _)
        apply aops_step (by decide) rfl
        · intro K hK
          simp (disch := first | omega | decide) only [go_sem, f0, f5, f6, f34, f35, f36, o6, hlz, hpo, j6, j7, act_call, List.map, cellsOf_page, Int.toNat_zero, Int.toNat_natCast]
          apply mwp_call_s rfl rfl rfl
          · intro Q hQ
            (simp (disch := first | omega | decide) only [go_sem, f0, f5, f6, f34, f35, f36, o6, hlz, hpo, j6, j7, peekL, reifyL_nil, reifyL_cons, reify_v, cellsOf_page, Int.toNat_zero, Int.toNat_natCast]; (exact hQ))
          · exact good_Parts _ (by omega)
          · simp [-List.map_take, -List.map_drop, -List.map_append, -List.map_replicate, -List.reduceReplicate, noPtrL, noPtr, noPtrL_bsl, noPtrL_map, sub]
          · rfl
          · exact hK _
        iterate 2 (apply aops_step (by decide) rfl; · (intro K hK; simp (disch := first | omega | decide) only [go_sem, f0, f5, f6, f34, f35, f36, o6, hlz, hpo, j6, j7, cellsOf_page, Int.toNat_zero, Int.toNat_natCast]; exact hK _))
        refine aops_nil ?_
        apply AW.cond
        · simp (disch := first | omega | decide) only [go_sem, f0, f5, f6, f34, f35, f36, o6, hlz, hpo, j6, j7, cellsOf_page, Int.toNat_zero, Int.toNat_natCast]; rfl
        case ht =>
          intro hb
          try simp only [Bool.or_eq_true, Bool.and_eq_true, Bool.or_eq_false_iff, Bool.and_eq_false_iff, decide_eq_true_eq, decide_eq_false_iff_not] at hb
          have hbt57 := hb
          refine AW.seq ?_
          refine AW.region (cfg := cfg) ?_
          iterate 3 (apply aops_step (by decide) rfl; · (intro K hK; simp (disch := first | omega | decide) only [go_sem, f0, f5, f6, f34, f35, f36, o6, hlz, hpo, j6, j7, sz22, cellsOf_page, Int.toNat_zero, Int.toNat_natCast]; exact hK _))
          refine aops_nil ?_
          refine AW.ret ?_
          refine ⟨.inr rfl, ?_⟩
          have hcl := trivial
          (have zz : joinOK l = false := join_no4 (fun e => hbt57 (by rw [← j1]; exact e)))
          (obtain ⟨e1, e2, e3⟩ := join_f zz; rw [e1, e2, e3]; refine leavesN ?_; refine leaves_mwp2 (rs := [.tmp 2, .tmp 3, .tmp 4]) rfl ?_; simp (config := {failIfUnchanged := false}) [giveL, srcOne, rehome, freezeN, sub, upd, opn, aLoad, loadL, giveOne, reify, reifyL, readL, readOne, Mwp, M.bind, Mem.set, setAt, cellsL, hG, f0, f5, f6, f34, f35, f36, o6, hlz, hpo, j6, j7]; done)
        case hf =>
          intro hb
          try simp only [Bool.or_eq_true, Bool.and_eq_true, Bool.or_eq_false_iff, Bool.and_eq_false_iff, decide_eq_true_eq, decide_eq_false_iff_not] at hb
          have hbt57 := hb
          refine AW.skip ?_
          refine AW.seq ?_
          refine AW.region (cfg := cfg) ?_
          iterate 2 (apply aops_step (by decide) rfl; · (intro K hK; simp (disch := first | omega | decide) only [go_sem, f0, f5, f6, f34, f35, f36, o6, hlz, hpo, j6, j7, cellsOf_page, Int.toNat_zero, Int.toNat_natCast]; exact hK _))
          apply aops_step (by decide) rfl
          · intro K hK
            simp (disch := first | omega | decide) only [go_sem, f0, f5, f6, f34, f35, f36, o6, hlz, hpo, j6, j7, cellsOf_page, Int.toNat_zero, Int.toNat_natCast]
            rw [asg_fz (by rfl) (by decide) (by simp (disch := first | omega | decide) only [go_sem, f0, f5, f6, f34, f35, f36, o6, hlz, hpo, j6, j7, cellsOf_page, Int.toNat_zero, Int.toNat_natCast] <;> rfl)]
            exact hK _
          iterate 2 (apply aops_step (by decide) rfl; · (intro K hK; simp (disch := first | omega | decide) only [go_sem, f0, f5, f6, f34, f35, f36, o6, hlz, hpo, j6, j7, cellsOf_page, Int.toNat_zero, Int.toNat_natCast]; exact hK _))
          refine aops_nil ?_
          refine AW.ret ?_
          refine ⟨.inr rfl, ?_⟩
          have hcl := trivial
          (have zz : joinOK l = true := join_yes hhd mo0 (by rw [j1]; exact Decidable.not_not.1 hbt57))
          (obtain ⟨e1, e2, e3⟩ := join_t zz; rw [e1, e2, e3]; refine leavesN ?_; refine leaves_mwp2 (rs := [.tmp 2, .tmp 3, .tmp 4]) rfl ?_; simp (config := {failIfUnchanged := false}) [giveL, srcOne, rehome, freezeN, sub, upd, opn, aLoad, loadL, giveOne, reify, reifyL, readL, readOne, Mwp, M.bind, Mem.set, setAt, cellsL, hG, f0, f5, f6, f34, f35, f36, o6, hlz, hpo, j6, j7]; exact ⟨⟨rfl, List.take_of_length_le (by simp)⟩, j1.symm⟩)

end Go.Vai.R
