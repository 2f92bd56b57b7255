import Derived.Test.YtblgcekomnnfmaagRec4
import Derived.Test.YtblgcekomnnfmaaVaiD
namespace Go.Vai.R
open Go.Proofs Go.Vai Go.Vai.G Go.Vai.L Go.Vai.O Go.Vai.U Go.Vai.Z
set_option linter.unusedSimpArgs false
set_option linter.unusedVariables false

theorem eq_next {l : List Page} {k : Nat} (hl : jN l ≤ l.length) (h0 : 0 < l.length) (hk : k < jN l) (h : ∀ i (hi : i < jN l), i < k → pageEq (pageAt l[0] false (jB l) (parts ((jB l).length : Int)) i) (l[i]'(by omega)) = true) (h1 : (!pageEq (pageAt l[0] false (jB l) (parts ((jB l).length : Int)) k) (l[k]'(by omega))) = false) :
    ∀ i (hi : i < jN l), i < k + 1 → pageEq (pageAt l[0] false (jB l) (parts ((jB l).length : Int)) i) (l[i]'(by omega)) = true := fun i hi hik => by
  by_cases e : i = k
  · subst e; simpa using h1
  · exact h i hi (by omega)
set_option maxHeartbeats 4000000 in
set_option maxRecDepth 100000 in
theorem good_refJoin (nil : Bool) (l : List Page) (hl : l.length ≤ 20) (pl6 : ∀ x ∈ l, x.b.length ≤ 600) : Good Try.prog 58 [(.sl 7 nil (l.map pageA), false)] [] [(.sl 1 (!joinOK l) (bsl (joinB l)), false), (i64 (joinN l), false)] [] := by
  refine good_of_body3 79 Try.func58 rfl rfl rfl (by simp) ?_
  intro s m ha hr hv hG
  have f0 : s 0 = .v (.sl 7 nil (l.map pageA)) := ha 0 _ rfl
  clear ha
  refine AW.seq ?_
  refine AW.region (cfg := cfg) ?_
  iterate 2 (apply aops_step (by decide) rfl; · (intro K hK; simp (disch := first | omega | decide) only [go_sem, f0, sz22, cellsOf_page, Int.toNat_zero, Int.toNat_natCast, Bool.false_and]; exact hK _))
  refine aops_nil ?_
  refine AW.seq ?_
  refine AW.seq ?_
  rcases way3 l with h0 | ⟨h0, hp⟩ | ⟨h0, hp⟩
  · skip
    have hlz : ((l.length : Nat) : Int) = 0 := by omega
    have zo := join_no0 h0
    have hpo := d00
    refine AW.region (cfg := cfg) ?_
    iterate 4 (apply aops_step (by decide) rfl; · (intro K hK; simp (disch := first | omega | decide) only [go_sem, f0, hlz, hpo, List.map, List.length_map, aops_len u91, cellsOf_page, Int.toNat_zero, Int.toNat_natCast, Bool.false_and]; exact hK _))
    apply aops_skip' (by decide) rfl
    apply aops_skip' (by decide) rfl
    apply aops_skip' (by decide) rfl
    apply aops_skip' (by decide) rfl
    apply aops_skip' (by decide) rfl
    iterate 2 (apply aops_step (by decide) rfl; · (intro K hK; simp (disch := first | omega | decide) only [go_sem, f0, hlz, hpo, cellsOf_page, Int.toNat_zero, Int.toNat_natCast, Bool.false_and]; exact hK _))
    apply aops_skip' (by decide) rfl
    apply aops_skip' (by decide) rfl
    apply aops_skip' (by decide) rfl
    apply aops_skip' (by decide) rfl
    apply aops_skip' (by decide) rfl
    apply aops_skip' (by decide) rfl
    apply aops_skip' (by decide) rfl
    iterate 1 (apply aops_step (by decide) rfl; · (intro K hK; simp (disch := first | omega | decide) only [go_sem, f0, hlz, hpo, cellsOf_page, Int.toNat_zero, Int.toNat_natCast, Bool.false_and]; exact hK _))
    refine aops_nil ?_
    apply AW.cond
    · simp (disch := first | omega | decide) only [go_sem, f0, hlz, hpo, cellsOf_page, Int.toNat_zero, Int.toNat_natCast, Bool.false_and]; rfl
    case hf => intro hb; simp at hb
    case ht =>
    intro hb
    have hbt27 := hb
    refine AW.seq ?_
    refine AW.region (cfg := cfg) ?_
    iterate 2 (apply aops_step (by decide) rfl; · (intro K hK; simp (disch := first | omega | decide) only [go_sem, f0, hlz, hpo, sz22, cellsOf_page, Int.toNat_zero, Int.toNat_natCast, Bool.false_and]; exact hK _))
    refine aops_nil ?_
    refine AW.ret ?_
    refine ⟨.inr rfl, ?_⟩
    (have zz := zo)
    (obtain ⟨e1, e2, e3⟩ := join_f zz; rw [e1, e2, e3]; refine leavesN ?_; refine leaves_mwp2 (rs := [.tmp 2, .tmp 3]) rfl ?_; simp (config := {failIfUnchanged := false}) [giveL, srcOne, rehome, freezeN, sub, upd, opn, aLoad, loadL, giveOne, reify, reifyL, readL, readOne, Mwp, M.bind, Mem.set, setAt, cellsL, hG, f0, hlz, hpo]; done)
  · skip
    have hlz : decide (((l.length : Nat) : Int) = 0) = false := decide_eq_false (by omega)
    have zo := join_no1 h0 hp
    have hpl : l[0].b.length ≤ 600 := pl6 l[0] (List.getElem_mem h0)
    have hpo := hp
    refine AW.region (cfg := cfg) ?_
    iterate 5 (apply aops_step (by decide) rfl; · (intro K hK; simp (disch := first | omega | decide) only [go_sem, f0, hlz, hpo, List.map, List.length_map, aops_len u91, cellsOf_page, Int.toNat_zero, Int.toNat_natCast, Bool.false_and]; exact hK _))
    apply aops_step (by decide) rfl
    · intro K hK
      simp (disch := first | omega | decide) only [go_sem, f0, hlz, hpo, act_indexAddr_s u91 ti58, List.map, cellsOf_page, Int.toNat_zero, Int.toNat_natCast, Bool.false_and]
      skip
      exact hK _
    apply aops_step (by decide) rfl
    · intro K hK
      simp (disch := first | omega | decide) only [go_sem, f0, hlz, hpo, act_load_t ti58, List.map, cellsOf_page, Int.toNat_zero, Int.toNat_natCast, Bool.false_and]
      rw [mwp_load_is (by simp)]
      exact hK _
    apply aops_step (by decide) rfl
    · intro K hK
      simp (disch := first | omega | decide) only [go_sem, f0, hlz, hpo, act_call, List.map, cellsOf_page, Int.toNat_zero, Int.toNat_natCast, Bool.false_and]
      apply mwp_call_s rfl rfl rfl
      · intro Q hQ
        (simp (disch := first | omega | decide) only [go_sem, f0, hlz, hpo, peekL, reifyL_nil, reifyL_cons, reify_v, cellsOf_page, Int.toNat_zero, Int.toNat_natCast, Bool.false_and]; (exact hQ))
      · exact good_refMayP l[0] (by omega)
      · simp [-List.map_take, -List.map_drop, -List.map_append, -List.map_replicate, -List.reduceReplicate, noPtrL, noPtr, noPtrL_bsl, noPtrL_map, sub]
      · rfl
      · exact hK _
    iterate 3 (apply aops_step (by decide) rfl; · (intro K hK; simp (disch := first | omega | decide) only [go_sem, f0, hlz, hpo, cellsOf_page, Int.toNat_zero, Int.toNat_natCast, Bool.false_and]; exact hK _))
    apply aops_skip' (by decide) rfl
    apply aops_skip' (by decide) rfl
    apply aops_skip' (by decide) rfl
    apply aops_skip' (by decide) rfl
    apply aops_skip' (by decide) rfl
    apply aops_skip' (by decide) rfl
    apply aops_skip' (by decide) rfl
    iterate 1 (apply aops_step (by decide) rfl; · (intro K hK; simp (disch := first | omega | decide) only [go_sem, f0, hlz, hpo, cellsOf_page, Int.toNat_zero, Int.toNat_natCast, Bool.false_and]; exact hK _))
    refine aops_nil ?_
    apply AW.cond
    · simp (disch := first | omega | decide) only [go_sem, f0, hlz, hpo, cellsOf_page, Int.toNat_zero, Int.toNat_natCast, Bool.false_and]; rfl
    case hf => intro hb; simp at hb
    case ht =>
    intro hb
    have hbt27 := hb
    refine AW.seq ?_
    refine AW.region (cfg := cfg) ?_
    iterate 2 (apply aops_step (by decide) rfl; · (intro K hK; simp (disch := first | omega | decide) only [go_sem, f0, hlz, hpo, sz22, cellsOf_page, Int.toNat_zero, Int.toNat_natCast, Bool.false_and]; exact hK _))
    refine aops_nil ?_
    refine AW.ret ?_
    refine ⟨.inr rfl, ?_⟩
    (have zz := zo)
    (obtain ⟨e1, e2, e3⟩ := join_f zz; rw [e1, e2, e3]; refine leavesN ?_; refine leaves_mwp2 (rs := [.tmp 2, .tmp 3]) rfl ?_; simp (config := {failIfUnchanged := false}) [giveL, srcOne, rehome, freezeN, sub, upd, opn, aLoad, loadL, giveOne, reify, reifyL, readL, readOne, Mwp, M.bind, Mem.set, setAt, cellsL, hG, f0, hlz, hpo]; done)
  · skip
    have hlz : decide (((l.length : Nat) : Int) = 0) = false := decide_eq_false (by omega)
    have hpl : l[0].b.length ≤ 600 := pl6 l[0] (List.getElem_mem h0)
    have hpo := hp
    obtain ⟨j1, j2, j3⟩ := jN_is h0 hp
    have j6 : (l[0].parts).toNat = jN l := by omega
    refine AW.region (cfg := cfg) ?_
    iterate 5 (apply aops_step (by decide) rfl; · (intro K hK; simp (disch := first | omega | decide) only [go_sem, f0, hlz, hpo, List.map, List.length_map, aops_len u91, cellsOf_page, Int.toNat_zero, Int.toNat_natCast, Bool.false_and]; exact hK _))
    apply aops_step (by decide) rfl
    · intro K hK
      simp (disch := first | omega | decide) only [go_sem, f0, hlz, hpo, act_indexAddr_s u91 ti58, List.map, cellsOf_page, Int.toNat_zero, Int.toNat_natCast, Bool.false_and]
      skip
      exact hK _
    apply aops_step (by decide) rfl
    · intro K hK
      simp (disch := first | omega | decide) only [go_sem, f0, hlz, hpo, act_load_t ti58, List.map, cellsOf_page, Int.toNat_zero, Int.toNat_natCast, Bool.false_and]
      rw [mwp_load_is (by simp)]
      exact hK _
    apply aops_step (by decide) rfl
    · intro K hK
      simp (disch := first | omega | decide) only [go_sem, f0, hlz, hpo, act_call, List.map, cellsOf_page, Int.toNat_zero, Int.toNat_natCast, Bool.false_and]
      apply mwp_call_s rfl rfl rfl
      · intro Q hQ
        (simp (disch := first | omega | decide) only [go_sem, f0, hlz, hpo, peekL, reifyL_nil, reifyL_cons, reify_v, cellsOf_page, Int.toNat_zero, Int.toNat_natCast, Bool.false_and]; (exact hQ))
      · exact good_refMayP l[0] (by omega)
      · simp [-List.map_take, -List.map_drop, -List.map_append, -List.map_replicate, -List.reduceReplicate, noPtrL, noPtr, noPtrL_bsl, noPtrL_map, sub]
      · rfl
      · exact hK _
    iterate 4 (apply aops_step (by decide) rfl; · (intro K hK; simp (disch := first | omega | decide) only [go_sem, f0, hlz, hpo, cellsOf_page, Int.toNat_zero, Int.toNat_natCast, Bool.false_and]; exact hK _))
    apply aops_step (by decide) rfl
    · intro K hK
      simp (disch := first | omega | decide) only [go_sem, f0, hlz, hpo, act_indexAddr_s u91 ti58, List.map, cellsOf_page, Int.toNat_zero, Int.toNat_natCast, Bool.false_and]
      skip
      exact hK _
    apply aops_step (by decide) rfl
    · intro K hK
      simp (disch := first | omega | decide) only [go_sem, f0, hlz, hpo, act_fieldAddr_t fo58_5, List.map, cellsOf_page, Int.toNat_zero, Int.toNat_natCast, Bool.false_and]
      skip
      exact hK _
    apply aops_step (by decide) rfl
    · intro K hK
      simp (disch := first | omega | decide) only [go_sem, f0, hlz, hpo, act_load_t ti3, List.map, cellsOf_page, Int.toNat_zero, Int.toNat_natCast, Bool.false_and]
      rw [mwp_load_i1 (by rfl)]
      exact hK _
    iterate 4 (apply aops_step (by decide) rfl; · (intro K hK; simp (disch := first | omega | decide) only [go_sem, f0, hlz, hpo, List.map, List.length_map, aops_len u91, cellsOf_page, Int.toNat_zero, Int.toNat_natCast, Bool.false_and]; exact hK _))
    refine aops_nil ?_
    apply AW.cond
    · simp (disch := first | omega | decide) only [go_sem, f0, hlz, hpo, cellsOf_page, Int.toNat_zero, Int.toNat_natCast, Bool.false_and]; rfl
    case ht =>
      intro hb
      try simp only [Bool.or_eq_true, Bool.and_eq_true, Bool.or_eq_false_iff, Bool.and_eq_false_iff, decide_eq_true_eq, decide_eq_false_iff_not] at hb
      have hbt27 := hb
      refine AW.seq ?_
      refine AW.region (cfg := cfg) ?_
      iterate 2 (apply aops_step (by decide) rfl; · (intro K hK; simp (disch := first | omega | decide) only [go_sem, f0, hlz, hpo, sz22, cellsOf_page, Int.toNat_zero, Int.toNat_natCast, Bool.false_and]; exact hK _))
      refine aops_nil ?_
      refine AW.ret ?_
      refine ⟨.inr rfl, ?_⟩
      (have zz := join_no2 h0 (by omega))
      (obtain ⟨e1, e2, e3⟩ := join_f zz; rw [e1, e2, e3]; refine leavesN ?_; refine leaves_mwp2 (rs := [.tmp 2, .tmp 3]) rfl ?_; simp (config := {failIfUnchanged := false}) [giveL, srcOne, rehome, freezeN, sub, upd, opn, aLoad, loadL, giveOne, reify, reifyL, readL, readOne, Mwp, M.bind, Mem.set, setAt, cellsL, hG, f0, hlz, hpo]; done)
    case hf =>
      intro hb
      try simp only [Bool.or_eq_true, Bool.and_eq_true, Bool.or_eq_false_iff, Bool.and_eq_false_iff, decide_eq_true_eq, decide_eq_false_iff_not] at hb
      have hbt27 := hb
      refine AW.skip ?_
      refine AW.seq ?_
      have hhd := head_yes h0 hp (by omega)
      have j5 : jN l ≤ l.length := by omega
      have j7 : (((l.take (jN l)).length : Nat) : Int) = (jN l : Int) := by (simp; omega)
      have hcb := cat_le (l := l) (k := jN l) j5 pl6
      have hbd := page_bd hp
      refine AW.region (cfg := cfg) ?_
      iterate 1 (apply aops_step (by decide) rfl; · (intro K hK; simp (disch := first | omega | decide) only [go_sem, f0, hlz, hpo, j6, j7, cellsOf_page, Int.toNat_zero, Int.toNat_natCast, Bool.false_and]; exact hK _))
      apply aops_step (by decide) rfl
      · intro K hK
        simp (disch := first | omega | decide) only [go_sem, f0, hlz, hpo, j6, j7, act_indexAddr_s u91 ti58, List.map, cellsOf_page, Int.toNat_zero, Int.toNat_natCast, Bool.false_and]
        skip
        exact hK _
      apply aops_step (by decide) rfl
      · intro K hK
        simp (disch := first | omega | decide) only [go_sem, f0, hlz, hpo, j6, j7, act_fieldAddr_t fo58_5, List.map, cellsOf_page, Int.toNat_zero, Int.toNat_natCast, Bool.false_and]
        skip
        exact hK _
      apply aops_step (by decide) rfl
      · intro K hK
        simp (disch := first | omega | decide) only [go_sem, f0, hlz, hpo, j6, j7, act_load_t ti3, List.map, cellsOf_page, Int.toNat_zero, Int.toNat_natCast, Bool.false_and]
        rw [mwp_load_i1 (by rfl)]
        exact hK _
      iterate 1 (apply aops_step (by decide) rfl; · (intro K hK; simp (disch := first | omega | decide) only [go_sem, f0, hlz, hpo, j6, j7, cellsOf_page, Int.toNat_zero, Int.toNat_natCast, Bool.false_and]; exact hK _))
      refine aops_nil ?_
      refine AW.seq ?_
      refine AW.region (cfg := cfg) ?_
      apply aops_step (by decide) rfl
      · intro K hK
        rw [act_bs el22 ti5]
        (simp [-List.map_take, -List.map_drop, -BitVec.toNat_ofInt, -BitVec.ofInt_natCast, -BitVec.toNat_setWidth, -BitVec.toNat_ushiftRight, -BitVec.toNat_umod, -BitVec.toNat_udiv, go_sem, elems_v, cellishAV, Value.oneCell', isAggAV, partsOf, TI.z, TI.mk1, f0, hlz, hpo, j6, j7]; exact hK _)
      apply aops_step (by decide) rfl
      · intro K hK
        simp (disch := first | omega | decide) only [go_sem, f0, hlz, hpo, j6, j7, cellsOf_page, Int.toNat_zero, Int.toNat_natCast, Bool.false_and]
        rw [asg_tmp (by simp (disch := first | omega | decide) only [go_sem, f0, hlz, hpo, j6, j7, cellsOf_page, Int.toNat_zero, Int.toNat_natCast, Bool.false_and]; rfl)]
        exact hK _
      refine aops_nil ?_
      refine AW.seq ?_
      refine AW.seq ?_
      refine AW.region (cfg := cfg) ?_
      iterate 1 (apply aops_step (by decide) rfl; · (intro K hK; simp (disch := first | omega | decide) only [go_sem, f0, hlz, hpo, j6, j7, cellsOf_page, Int.toNat_zero, Int.toNat_natCast, Bool.false_and]; exact hK _))
      refine aops_nil ?_
      refine AW.block ?_
      refine AW.forN (fun k σ => ∃ s m, σ = ⟨79, s, m⟩ ∧ s 0 = .v (.sl 7 nil (l.map pageA)) ∧ s 4 = .v (i64 (l[0]).parts) ∧ s 5 = .own (.var 5) (m.objs (.var 5)).1 0 ((catB (l.take k)).length) ∧ (m.objs (.var 5)).2 = .arr false 1 (bsl (catB (l.take k))) ∧ s 6 = .v (i64 (k : Int)) ∧ (∀ i, (m.objs (.res i)).2 = .dead) ∧ m.G = []) (jN l) ?_ ?_ ?_
      · refine ⟨_, _, rfl, ?_, ?_, ?_, ?_, ?_, (by intro i; simp [Mem.set, hr]), (by exact hG)⟩ <;> try simp (disch := first | omega | decide) only [go_sem, f0, hlz, hpo, j6, j7, cellsOf_page, Int.toNat_zero, Int.toNat_natCast, Bool.false_and]
        all_goals rfl
      · clear f0 hr hG
        rintro k σ hk ⟨s, m, rfl, f0, f4, f5, o5, f6, hr, hG⟩
        obtain ⟨g5, o5⟩ : ∃ g, m.objs (.var 5) = (g, .arr false 1 (bsl (catB (l.take k)))) := ⟨_, Prod.ext rfl o5⟩
        rw [o5] at f5
        refine AW.seq ?_
        refine AW.seq ?_
        refine AW.region (cfg := cfg) ?_
        iterate 3 (apply aops_step (by decide) rfl; · (intro K hK; simp (disch := first | omega | decide) only [go_sem, f0, f4, f5, f6, o5, hlz, hpo, j6, j7, cellsOf_page, Int.toNat_zero, Int.toNat_natCast, Bool.false_and]; exact hK _))
        refine aops_nil ?_
        apply AW.cond
        · simp (disch := first | omega | decide) only [go_sem, f0, f4, f5, f6, o5, hlz, hpo, j6, j7, cellsOf_page, Int.toNat_zero, Int.toNat_natCast, Bool.false_and]; rfl
        case hf => intro hb; (simp at hb; omega)
        case ht =>
        intro hb
        have hbt35 := hb
        refine AW.skip ?_
        refine AW.seq ?_
        refine AW.block ?_
        have hk2 : k < l.length := by omega
        have hpk := pl6 l[k] (List.getElem_mem hk2)
        have hcl := catB_succ hk2
        have hck := cat_le (l := l) (k := k) (by omega) pl6
        refine AW.region (cfg := cfg) ?_
        iterate 3 (apply aops_step (by decide) rfl; · (intro K hK; simp (disch := first | omega | decide) only [go_sem, f0, f4, f5, f6, o5, hlz, hpo, j6, j7, cellsOf_page, Int.toNat_zero, Int.toNat_natCast, Bool.false_and]; exact hK _))
        apply aops_step (by decide) rfl
        · intro K hK
          simp (disch := first | omega | decide) only [go_sem, f0, f4, f5, f6, o5, hlz, hpo, j6, j7, act_indexAddr_s u91 ti58, List.map, cellsOf_page, Int.toNat_zero, Int.toNat_natCast, Bool.false_and]
          skip
          exact hK _
        apply aops_step (by decide) rfl
        · intro K hK
          simp (disch := first | omega | decide) only [go_sem, f0, f4, f5, f6, o5, hlz, hpo, j6, j7, act_fieldAddr_t fo58_6, List.map, cellsOf_page, Int.toNat_zero, Int.toNat_natCast, Bool.false_and]
          skip
          exact hK _
        apply aops_step (by decide) rfl
        · intro K hK
          simp (disch := first | omega | decide) only [go_sem, f0, f4, f5, f6, o5, hlz, hpo, j6, j7, act_load_t ti22, List.map, cellsOf_page, Int.toNat_zero, Int.toNat_natCast, Bool.false_and]
          rw [mwp_load_i1 (by rfl)]
          exact hK _
        apply aops_step (by decide) rfl
        · intro K hK
          simp (disch := first | omega | decide) only [go_sem, f0, f4, f5, f6, o5, hlz, hpo, j6, j7, List.map, cellsOf_page, Int.toNat_zero, Int.toNat_natCast, Bool.false_and]
          apply mwp_append2 el22 ti5 u22
          case hpk => intro Q hQ; exact hQ
          case hs' => rfl
          case ho => simp (disch := first | omega | decide) only [go_sem, f0, f4, f5, f6, o5, hlz, hpo, j6, j7, cellsOf_page, Int.toNat_zero, Int.toNat_natCast, Bool.false_and]; rfl
          case hsz => rfl
          case hhi => (simp; done)
          case hb => (simp only [List.length_cons, List.length_nil, List.length_map, Nat.zero_add, Nat.reduceAdd, roomB]; omega)
          case hy => (simp [sub, cellsOf]; done)
          case k => (try simp only [List.nil_append, ← List.map_append, Bool.false_and]); exact hK _
        apply aops_step (by decide) rfl
        · intro K hK
          simp (disch := first | omega | decide) only [go_sem, f0, f4, f5, f6, o5, hlz, hpo, j6, j7, cellsOf_page, Int.toNat_zero, Int.toNat_natCast, Bool.false_and]
          rw [asg_tmp (by simp (disch := first | omega | decide) only [go_sem, f0, f4, f5, f6, o5, hlz, hpo, j6, j7, cellsOf_page, Int.toNat_zero, Int.toNat_natCast, Bool.false_and]; rfl)]
          exact hK _
        refine aops_nil ?_
        refine AW.region (cfg := cfg) ?_
        iterate 3 (apply aops_step (by decide) rfl; · (intro K hK; simp (disch := first | omega | decide) only [go_sem, f0, f4, f5, f6, o5, hlz, hpo, j6, j7, cellsOf_page, Int.toNat_zero, Int.toNat_natCast, Bool.false_and]; exact hK _))
        refine aops_nil ?_
        refine ⟨_, _, rfl, ?_, ?_, ?_, ?_, ?_, (by intro i; simp [Mem.set, hr]), (by exact hG)⟩ <;> try simp (disch := first | omega | decide) only [go_sem, f0, f4, f5, f6, o5, hlz, hpo, j6, j7, cellsOf_page, Int.toNat_zero, Int.toNat_natCast, Bool.false_and]
        all_goals first | rfl | (rw [hcl]; simp; done) | (rw [hcl]; done)
      · clear f0 hr hG
        rintro σ ⟨s, m, rfl, f0, f4, f5, o5, f6, hr, hG⟩
        obtain ⟨g5, o5⟩ : ∃ g, m.objs (.var 5) = (g, .arr false 1 (bsl (catB (l.take (jN l))))) := ⟨_, Prod.ext rfl o5⟩
        rw [o5] at f5
        refine AW.seq ?_
        refine AW.seq ?_
        refine AW.region (cfg := cfg) ?_
        iterate 3 (apply aops_step (by decide) rfl; · (intro K hK; simp (disch := first | omega | decide) only [go_sem, f0, f4, f5, f6, o5, hlz, hpo, j6, j7, cellsOf_page, Int.toNat_zero, Int.toNat_natCast, Bool.false_and]; exact hK _))
        refine aops_nil ?_
        apply AW.cond
        · simp (disch := first | omega | decide) only [go_sem, f0, f4, f5, f6, o5, hlz, hpo, j6, j7, cellsOf_page, Int.toNat_zero, Int.toNat_natCast, Bool.false_and]; rfl
        case ht => intro hb; (simp at hb; omega)
        case hf =>
        intro hb
        have hbt35 := hb
        refine AW.exit ?_
        refine AW.seq ?_
        refine AW.seq ?_
        refine AW.region (cfg := cfg) ?_
        iterate 1 (apply aops_step (by decide) rfl; · (intro K hK; simp (disch := first | omega | decide) only [go_sem, f0, f4, f5, f6, o5, hlz, hpo, j6, j7, cellsOf_page, Int.toNat_zero, Int.toNat_natCast, Bool.false_and]; exact hK _))
        apply aops_step (by decide) rfl
        · intro K hK
          simp (disch := first | omega | decide) only [go_sem, f0, f4, f5, f6, o5, hlz, hpo, j6, j7, List.map, List.length_map, aops_len u22, cellsOf_page, Int.toNat_zero, Int.toNat_natCast, Bool.false_and]
          ((rw [mwp_len_own u22 (by simp (disch := first | omega | decide) only [go_sem, f0, f4, f5, f6, o5, hlz, hpo, j6, j7, List.map, cellsOf_page, Int.toNat_zero, Int.toNat_natCast, Bool.false_and]; rfl)]); (try rw [sub_full (by (simp only [List.length_map, List.length_replicate]; done))]); (try simp only [List.length_map]); exact hK _)
        apply aops_step (by decide) rfl
        · intro K hK
          simp (disch := first | omega | decide) only [go_sem, f0, f4, f5, f6, o5, hlz, hpo, j6, j7, act_call, List.map, cellsOf_page, Int.toNat_zero, Int.toNat_natCast, Bool.false_and]
          apply mwp_call_s rfl rfl rfl
          · intro Q hQ
            (simp (disch := first | omega | decide) only [go_sem, f0, f4, f5, f6, o5, hlz, hpo, j6, j7, peekL, reifyL_nil, reifyL_cons, reify_v, cellsOf_page, Int.toNat_zero, Int.toNat_natCast, Bool.false_and]; (exact hQ))
          · exact good_refParts _ (by omega)
          · simp [-List.map_take, -List.map_drop, -List.map_append, -List.map_replicate, -List.reduceReplicate, noPtrL, noPtr, noPtrL_bsl, noPtrL_map, sub]
          · rfl
          · exact hK _
        iterate 3 (apply aops_step (by decide) rfl; · (intro K hK; simp (disch := first | omega | decide) only [go_sem, f0, f4, f5, f6, o5, hlz, hpo, j6, j7, cellsOf_page, Int.toNat_zero, Int.toNat_natCast, Bool.false_and]; exact hK _))
        apply aops_merge' (by decide) (by exact want_of (d := 50) rfl (by simp (disch := first | omega | decide) only [go_sem, f0, f4, f5, f6, o5, hlz, hpo, j6, j7, opn_cond, cellsOf_page, Int.toNat_zero, Int.toNat_natCast, Bool.false_and]; rfl))
        · intro hc K hK
          have hc2 := hc
          simp only [beq_iff_eq, decide_eq_true_eq, decide_eq_false_iff_not, Bool.or_eq_true, Bool.and_eq_true, Bool.or_eq_false_iff, Bool.and_eq_false_iff] at hc2
          simp (disch := first | omega | decide) only [go_sem, f0, f4, f5, f6, o5, hlz, hpo, j6, j7, opn_cond, hc, if_true, cellsOf_page, Int.toNat_zero, Int.toNat_natCast, Bool.false_and]
          exact hK _
        apply aops_merge' (by decide) (by exact want_of (d := 50) rfl (by simp (disch := first | omega | decide) only [go_sem, f0, f4, f5, f6, o5, hlz, hpo, j6, j7, opn_cond, cellsOf_page, Int.toNat_zero, Int.toNat_natCast, Bool.false_and]; rfl))
        · intro hc K hK
          have hc2 := hc
          simp only [beq_iff_eq, decide_eq_true_eq, decide_eq_false_iff_not, Bool.or_eq_true, Bool.and_eq_true, Bool.or_eq_false_iff, Bool.and_eq_false_iff] at hc2
          simp (disch := first | omega | decide) only [go_sem, f0, f4, f5, f6, o5, hlz, hpo, j6, j7, opn_cond, hc, if_true, cellsOf_page, Int.toNat_zero, Int.toNat_natCast, Bool.false_and]
          exact hK _
        apply aops_merge' (by decide) (by exact want_of (d := 50) rfl (by simp (disch := first | omega | decide) only [go_sem, f0, f4, f5, f6, o5, hlz, hpo, j6, j7, opn_cond, cellsOf_page, Int.toNat_zero, Int.toNat_natCast, Bool.false_and]; rfl))
        · intro hc K hK
          have hc2 := hc
          simp only [beq_iff_eq, decide_eq_true_eq, decide_eq_false_iff_not, Bool.or_eq_true, Bool.and_eq_true, Bool.or_eq_false_iff, Bool.and_eq_false_iff] at hc2
          simp (disch := first | omega | decide) only [go_sem, f0, f4, f5, f6, o5, hlz, hpo, j6, j7, opn_cond, hc, if_true, act_slice_s u91 ti58, cellsOf_page, Int.toNat_zero, Int.toNat_natCast, Bool.false_and]
          exact hK _
        apply aops_merge' (by decide) (by exact want_of (d := 50) rfl (by simp (disch := first | omega | decide) only [go_sem, f0, f4, f5, f6, o5, hlz, hpo, j6, j7, opn_cond, cellsOf_page, Int.toNat_zero, Int.toNat_natCast, Bool.false_and]; rfl))
        · intro hc K hK
          have hc2 := hc
          simp only [beq_iff_eq, decide_eq_true_eq, decide_eq_false_iff_not, Bool.or_eq_true, Bool.and_eq_true, Bool.or_eq_false_iff, Bool.and_eq_false_iff] at hc2
          simp (disch := first | omega | decide) only [go_sem, f0, f4, f5, f6, o5, hlz, hpo, j6, j7, opn_cond, hc, if_true, act_call, List.map, cellsOf_page, Int.toNat_zero, Int.toNat_natCast, Bool.false_and]
          apply mwp_call_s rfl rfl rfl
          · intro Q hQ
            (simp (disch := first | omega | decide) only [go_sem, f0, f4, f5, f6, o5, hlz, hpo, j6, j7, opn_cond, hc, if_true, peekL, reifyL_nil, reifyL_cons, reify_v, cellsOf_page, Int.toNat_zero, Int.toNat_natCast, Bool.false_and]; (exact hQ))
          · exact good_refMayR nil (l.take (jN l)) (by simp; omega) (fun x hx => by have := pl6 x (List.mem_of_mem_take hx); omega)
          · simp [-List.map_take, -List.map_drop, -List.map_append, -List.map_replicate, -List.reduceReplicate, noPtrL, noPtr, noPtrL_bsl, noPtrL_map, sub]
          · rfl
          · exact hK _
        apply aops_merge' (by decide) (by exact want_of (d := 50) rfl (by simp (disch := first | omega | decide) only [go_sem, f0, f4, f5, f6, o5, hlz, hpo, j6, j7, opn_cond, cellsOf_page, Int.toNat_zero, Int.toNat_natCast, Bool.false_and]; rfl))
        · intro hc K hK
          have hc2 := hc
          simp only [beq_iff_eq, decide_eq_true_eq, decide_eq_false_iff_not, Bool.or_eq_true, Bool.and_eq_true, Bool.or_eq_false_iff, Bool.and_eq_false_iff] at hc2
          simp (disch := first | omega | decide) only [go_sem, f0, f4, f5, f6, o5, hlz, hpo, j6, j7, opn_cond, hc, if_true, cellsOf_page, Int.toNat_zero, Int.toNat_natCast, Bool.false_and]
          exact hK _
        iterate 1 (apply aops_step (by decide) rfl; · (intro K hK; simp (disch := first | omega | decide) only [go_sem, f0, f4, f5, f6, o5, hlz, hpo, j6, j7, cellsOf_page, Int.toNat_zero, Int.toNat_natCast, Bool.false_and]; exact hK _))
        refine aops_nil ?_
        apply AW.cond
        · simp (disch := first | omega | decide) only [go_sem, f0, f4, f5, f6, o5, hlz, hpo, j6, j7, cellsOf_page, Int.toNat_zero, Int.toNat_natCast, Bool.false_and]; rfl
        case ht =>
          intro hb
          try simp only [Bool.or_eq_true, Bool.and_eq_true, Bool.or_eq_false_iff, Bool.and_eq_false_iff, decide_eq_true_eq, decide_eq_false_iff_not] at hb
          have hbt56 := hb
          refine AW.seq ?_
          refine AW.region (cfg := cfg) ?_
          iterate 2 (apply aops_step (by decide) rfl; · (intro K hK; simp (disch := first | omega | decide) only [go_sem, f0, f4, f5, f6, o5, hlz, hpo, j6, j7, sz22, cellsOf_page, Int.toNat_zero, Int.toNat_natCast, Bool.false_and]; exact hK _))
          refine aops_nil ?_
          refine AW.ret ?_
          refine ⟨.inr rfl, ?_⟩
          (have zz : joinOK l = false := ref_no2 (by rcases hbt56 with h | h; exact .inl (fun e => h (by rw [← j1]; exact e)); exact .inr (by simpa [allPages] using h)))
          (obtain ⟨e1, e2, e3⟩ := join_f zz; rw [e1, e2, e3]; refine leavesN ?_; refine leaves_mwp2 (rs := [.tmp 2, .tmp 3]) rfl ?_; simp (config := {failIfUnchanged := false}) [giveL, srcOne, rehome, freezeN, sub, upd, opn, aLoad, loadL, giveOne, reify, reifyL, readL, readOne, Mwp, M.bind, Mem.set, setAt, cellsL, hG, f0, f4, f5, f6, o5, hlz, hpo, j6, j7]; done)
        case hf =>
          intro hb
          try simp only [Bool.or_eq_true, Bool.and_eq_true, Bool.or_eq_false_iff, Bool.and_eq_false_iff, decide_eq_true_eq, decide_eq_false_iff_not] at hb
          have hbt56 := hb
          refine AW.skip ?_
          refine AW.seq ?_
          have hq1 : parts (((catB (l.take (jN l))).length : Nat) : Int) = (jN l : Int) := by (rw [j1]; exact Decidable.not_not.1 hb.1)
          have hq2 : (parts (((catB (l.take (jN l))).length : Nat) : Int)).toNat = jN l := by (rw [hq1]; exact Int.toNat_natCast _)
          have hq3 : allPages (l.take (jN l)) = true := by simpa [allPages] using hb.2
          refine AW.region (cfg := cfg) ?_
          iterate 1 (apply aops_step (by decide) rfl; · (intro K hK; simp (disch := first | omega | decide) only [go_sem, f0, f4, f5, f6, o5, hlz, hpo, j6, j7, hq2, cellsOf_page, Int.toNat_zero, Int.toNat_natCast, Bool.false_and]; exact hK _))
          apply aops_step (by decide) rfl
          · intro K hK
            simp (disch := first | omega | decide) only [go_sem, f0, f4, f5, f6, o5, hlz, hpo, j6, j7, hq2, act_indexAddr_s u91 ti58, List.map, cellsOf_page, Int.toNat_zero, Int.toNat_natCast, Bool.false_and]
            skip
            exact hK _
          apply aops_step (by decide) rfl
          · intro K hK
            simp (disch := first | omega | decide) only [go_sem, f0, f4, f5, f6, o5, hlz, hpo, j6, j7, hq2, act_load_t ti58, List.map, cellsOf_page, Int.toNat_zero, Int.toNat_natCast, Bool.false_and]
            rw [mwp_load_is (by simp)]
            exact hK _
          iterate 1 (apply aops_step (by decide) rfl; · (intro K hK; simp (disch := first | omega | decide) only [go_sem, f0, f4, f5, f6, o5, hlz, hpo, j6, j7, hq2, cellsOf_page, Int.toNat_zero, Int.toNat_natCast, Bool.false_and]; exact hK _))
          apply aops_step (by decide) rfl
          · intro K hK
            simp (disch := first | omega | decide) only [go_sem, f0, f4, f5, f6, o5, hlz, hpo, j6, j7, hq2, act_call, List.map, cellsOf_page, Int.toNat_zero, Int.toNat_natCast, Bool.false_and]
            apply mwp_call_r rfl rfl rfl
            · intro Q hQ
              ((try simp only [opn_agg, opn_own, opn_v]); (try simp only [List.drop_zero, List.drop_succ_cons, List.take_succ_cons, List.take_zero]); (repeat (first | rw [mwp_reifyL_agg] | rw [mwp_reifyL_v] | rw [mwp_reifyL_arr (by simp (disch := first | omega | decide) only [go_sem, f0, f4, f5, f6, o5, hlz, hpo, j6, j7, hq2, cellsOf_page, Int.toNat_zero, Int.toNat_natCast, Bool.false_and]; rfl)] | rw [mwp_reifyL_nil])); (repeat (rw [sub_full (by (simp only [List.length_map, List.length_replicate]; done))])); exact hQ)
            · exact good_refSplit l[0] (by omega) false (catB (l.take (jN l))) (by omega) (by omega)
            · simp [-List.map_take, -List.map_drop, -List.map_append, -List.map_replicate, -List.reduceReplicate, noPtrL, noPtr, noPtrL_bsl, noPtrL_map, sub]
            · simp (disch := first | omega | decide) only [go_sem, f0, f4, f5, f6, o5, hlz, hpo, j6, j7, hq2, cellsOf_page, Int.toNat_zero, Int.toNat_natCast, Bool.false_and]
              exact hK _
          iterate 1 (apply aops_step (by decide) rfl; · (intro K hK; simp (disch := first | omega | decide) only [go_sem, f0, f4, f5, f6, o5, hlz, hpo, j6, j7, hq2, cellsOf_page, Int.toNat_zero, Int.toNat_natCast, Bool.false_and]; exact hK _))
          refine aops_nil ?_
          refine AW.seq ?_
          refine AW.seq ?_
          refine AW.region (cfg := cfg) ?_
          iterate 1 (apply aops_step (by decide) rfl; · (intro K hK; simp (disch := first | omega | decide) only [go_sem, f0, f4, f5, f6, o5, hlz, hpo, j6, j7, hq2, cellsOf_page, Int.toNat_zero, Int.toNat_natCast, Bool.false_and]; exact hK _))
          refine aops_nil ?_
          refine AW.block ?_
          refine AW.forN (fun k σ => ∃ s m, σ = ⟨79, s, m⟩ ∧ s 0 = .v (.sl 7 nil (l.map pageA)) ∧ s 4 = .v (i64 (l[0]).parts) ∧ s 5 = .own (.var 5) (m.objs (.var 5)).1 0 ((catB (l.take (jN l))).length) ∧ (m.objs (.var 5)).2 = .frz false 1 (bsl (catB (l.take (jN l)))) ∧ s 7 = .v (.sl 7 false ((splitP l[0] false (catB (l.take (jN l))) (jN l)).map pageA)) ∧ s 8 = .v (i64 (k : Int)) ∧ (∀ i (hi : i < jN l), i < k → pageEq (pageAt l[0] false (jB l) (parts ((jB l).length : Int)) i) (l[i]'(by omega)) = true) ∧ (∀ i, (m.objs (.res i)).2 = .dead) ∧ m.G = []) (jN l) ?_ ?_ ?_
          · refine ⟨_, _, rfl, ?_, ?_, ?_, ?_, ?_, ?_, ?_, (by intro i; simp [Mem.set, hr]), (by exact hG)⟩ <;> try simp (disch := first | omega | decide) only [go_sem, f0, f4, f5, f6, o5, hlz, hpo, j6, j7, hq2, cellsOf_page, Int.toNat_zero, Int.toNat_natCast, Bool.false_and]
            all_goals first | rfl | (intro i _ hi; omega)
          · clear f0 f4 f5 f6 o5 hr hG
            rintro k σ hk ⟨s, m, rfl, f0, f4, f5, o5, f7, f8, mo0, hr, hG⟩
            obtain ⟨g5, o5⟩ : ∃ g, m.objs (.var 5) = (g, .frz false 1 (bsl (catB (l.take (jN l))))) := ⟨_, Prod.ext rfl o5⟩
            rw [o5] at f5
            refine AW.seq ?_
            refine AW.seq ?_
            refine AW.region (cfg := cfg) ?_
            iterate 3 (apply aops_step (by decide) rfl; · (intro K hK; simp (disch := first | omega | decide) only [go_sem, f0, f4, f5, f7, f8, o5, hlz, hpo, j6, j7, hq2, cellsOf_page, Int.toNat_zero, Int.toNat_natCast, Bool.false_and]; exact hK _))
            refine aops_nil ?_
            apply AW.cond
            · simp (disch := first | omega | decide) only [go_sem, f0, f4, f5, f7, f8, o5, hlz, hpo, j6, j7, hq2, cellsOf_page, Int.toNat_zero, Int.toNat_natCast, Bool.false_and]; rfl
            case hf => intro hb; (simp at hb; omega)
            case ht =>
            intro hb
            have hbt64 := hb
            refine AW.skip ?_
            refine AW.seq ?_
            refine AW.block ?_
            refine AW.seq ?_
            have hk2 : k < l.length := by omega
            have hks : k < (splitP l[0] false (catB (l.take (jN l))) (jN l)).length := by (rw [splitP_len]; exact hk)
            have sg := splitP_get (p := l[0]) (nil := false) (b := catB (l.take (jN l))) hk
            have hpk := pl6 l[k] (List.getElem_mem hk2)
            have hpc := chunk_len (catB (l.take (jN l))) k
            refine AW.draw (cfg := cfg) (by kernel_rfl) (by kernel_rfl) (by kernel_rfl) ?_
            iterate 2 (apply adraw_step rfl; · (intro K hK; simp (disch := first | omega | decide) only [go_sem, f0, f4, f5, f7, f8, o5, hlz, hpo, j6, j7, hq2, sg, cellsOf_page, Int.toNat_zero, Int.toNat_natCast, Bool.false_and]; exact hK))
            apply adraw_step rfl
            · intro K hK
              simp (disch := first | omega | decide) only [go_sem, f0, f4, f5, f7, f8, o5, hlz, hpo, j6, j7, hq2, sg, act_indexAddr_s u91 ti58, List.map, cellsOf_page, Int.toNat_zero, Int.toNat_natCast, Bool.false_and]
              skip
              exact hK
            apply adraw_step rfl
            · intro K hK
              simp (disch := first | omega | decide) only [go_sem, f0, f4, f5, f7, f8, o5, hlz, hpo, j6, j7, hq2, sg, act_load_t ti58, List.map, cellsOf_page, Int.toNat_zero, Int.toNat_natCast, Bool.false_and]
              rw [mwp_load_is (by simp)]
              exact hK
            iterate 2 (apply adraw_step rfl; · (intro K hK; simp (disch := first | omega | decide) only [go_sem, f0, f4, f5, f7, f8, o5, hlz, hpo, j6, j7, hq2, sg, cellsOf_page, Int.toNat_zero, Int.toNat_natCast, Bool.false_and]; exact hK))
            apply adraw_step rfl
            · intro K hK
              simp (disch := first | omega | decide) only [go_sem, f0, f4, f5, f7, f8, o5, hlz, hpo, j6, j7, hq2, sg, act_indexAddr_s u91 ti58, List.map, cellsOf_page, Int.toNat_zero, Int.toNat_natCast, Bool.false_and]
              skip
              exact hK
            apply adraw_step rfl
            · intro K hK
              simp (disch := first | omega | decide) only [go_sem, f0, f4, f5, f7, f8, o5, hlz, hpo, j6, j7, hq2, sg, act_load_t ti58, List.map, cellsOf_page, Int.toNat_zero, Int.toNat_natCast, Bool.false_and]
              rw [mwp_load_is (by simp)]
              exact hK
            apply adraw_step rfl
            · intro K hK
              simp (disch := first | omega | decide) only [go_sem, f0, f4, f5, f7, f8, o5, hlz, hpo, j6, j7, hq2, sg, act_call, List.map, cellsOf_page, Int.toNat_zero, Int.toNat_natCast, Bool.false_and]
              apply mwp_call_s rfl rfl rfl
              · intro Q hQ
                (simp (disch := first | omega | decide) only [go_sem, f0, f4, f5, f7, f8, o5, hlz, hpo, j6, j7, hq2, sg, peekL, reifyL_nil, reifyL_cons, reify_v, cellsOf_page, Int.toNat_zero, Int.toNat_natCast, Bool.false_and]; (exact hQ))
              · exact good_refSameP (pageAt l[0] false (catB (l.take (jN l))) (parts (((catB (l.take (jN l))).length : Nat) : Int)) k) (by (show (chunk _ _).length ≤ _; omega)) l[k] (by omega)
              · simp [-List.map_take, -List.map_drop, -List.map_append, -List.map_replicate, -List.reduceReplicate, noPtrL, noPtr, noPtrL_bsl, noPtrL_map, sub]
              · rfl
              · exact hK
            iterate 1 (apply adraw_step rfl; · (intro K hK; simp (disch := first | omega | decide) only [go_sem, f0, f4, f5, f7, f8, o5, hlz, hpo, j6, j7, hq2, sg, cellsOf_page, Int.toNat_zero, Int.toNat_natCast, Bool.false_and]; exact hK))
            refine adraw_nil (by kernel_rfl) ?_
            apply AW.cond
            · simp (disch := first | omega | decide) only [go_sem, f0, f4, f5, f7, f8, o5, hlz, hpo, j6, j7, hq2, sg, cellsOf_page, Int.toNat_zero, Int.toNat_natCast, Bool.false_and]; rfl
            case ht =>
              intro hb
              try simp only [Bool.or_eq_true, Bool.and_eq_true, Bool.or_eq_false_iff, Bool.and_eq_false_iff, decide_eq_true_eq, decide_eq_false_iff_not] at hb
              have hbt76 := hb
              refine AW.seq ?_
              refine AW.region (cfg := cfg) ?_
              iterate 2 (apply aops_step (by decide) rfl; · (intro K hK; simp (disch := first | omega | decide) only [go_sem, f0, f4, f5, f7, f8, o5, hlz, hpo, j6, j7, hq2, sg, sz22, cellsOf_page, Int.toNat_zero, Int.toNat_natCast, Bool.false_and]; exact hK _))
              refine aops_nil ?_
              refine AW.ret ?_
              refine ⟨.inr rfl, ?_⟩
              (have zz := ref_no3 hk hk2 h0 (bnot_t hbt76))
              (obtain ⟨e1, e2, e3⟩ := join_f zz; rw [e1, e2, e3]; refine leavesN ?_; refine leaves_mwp2 (rs := [.tmp 2, .tmp 3]) rfl ?_; simp (config := {failIfUnchanged := false}) [giveL, srcOne, rehome, freezeN, sub, upd, opn, aLoad, loadL, giveOne, reify, reifyL, readL, readOne, Mwp, M.bind, Mem.set, setAt, cellsL, hG, f0, f4, f5, f7, f8, o5, hlz, hpo, j6, j7, hq2, sg]; done)
            case hf =>
              intro hb
              try simp only [Bool.or_eq_true, Bool.and_eq_true, Bool.or_eq_false_iff, Bool.and_eq_false_iff, decide_eq_true_eq, decide_eq_false_iff_not] at hb
              have hbt76 := hb
              refine AW.skip ?_
              refine AW.region (cfg := cfg) ?_
              iterate 3 (apply aops_step (by decide) rfl; · (intro K hK; simp (disch := first | omega | decide) only [go_sem, f0, f4, f5, f7, f8, o5, hlz, hpo, j6, j7, hq2, sg, cellsOf_page, Int.toNat_zero, Int.toNat_natCast, Bool.false_and]; exact hK _))
              refine aops_nil ?_
              refine ⟨_, _, rfl, ?_, ?_, ?_, ?_, ?_, ?_, ?_, (by intro i; simp [Mem.set, hr]), (by exact hG)⟩ <;> try simp (disch := first | omega | decide) only [go_sem, f0, f4, f5, f7, f8, o5, hlz, hpo, j6, j7, hq2, sg, cellsOf_page, Int.toNat_zero, Int.toNat_natCast, Bool.false_and]
              all_goals first | rfl | exact eq_next j5 h0 hk mo0 hb
          · clear f0 f4 f5 f6 o5 hr hG
            rintro σ ⟨s, m, rfl, f0, f4, f5, o5, f7, f8, mo0, hr, hG⟩
            obtain ⟨g5, o5⟩ : ∃ g, m.objs (.var 5) = (g, .frz false 1 (bsl (catB (l.take (jN l))))) := ⟨_, Prod.ext rfl o5⟩
            rw [o5] at f5
            refine AW.seq ?_
            refine AW.seq ?_
            refine AW.region (cfg := cfg) ?_
            iterate 3 (apply aops_step (by decide) rfl; · (intro K hK; simp (disch := first | omega | decide) only [go_sem, f0, f4, f5, f7, f8, o5, hlz, hpo, j6, j7, hq2, cellsOf_page, Int.toNat_zero, Int.toNat_natCast, Bool.false_and]; exact hK _))
            refine aops_nil ?_
            apply AW.cond
            · simp (disch := first | omega | decide) only [go_sem, f0, f4, f5, f7, f8, o5, hlz, hpo, j6, j7, hq2, cellsOf_page, Int.toNat_zero, Int.toNat_natCast, Bool.false_and]; rfl
            case ht => intro hb; (simp at hb; omega)
            case hf =>
            intro hb
            have hbt64 := hb
            refine AW.exit ?_
            refine AW.seq ?_
            refine AW.region (cfg := cfg) ?_
            iterate 2 (apply aops_step (by decide) rfl; · (intro K hK; simp (disch := first | omega | decide) only [go_sem, f0, f4, f5, f7, f8, o5, hlz, hpo, j6, j7, hq2, cellsOf_page, Int.toNat_zero, Int.toNat_natCast, Bool.false_and]; exact hK _))
            apply aops_step (by decide) rfl
            · intro K hK
              simp (disch := first | omega | decide) only [go_sem, f0, f4, f5, f7, f8, o5, hlz, hpo, j6, j7, hq2, cellsOf_page, Int.toNat_zero, Int.toNat_natCast, Bool.false_and]
              rw [asg_ff (by rfl) (by decide) (by simp (disch := first | omega | decide) only [go_sem, f0, f4, f5, f7, f8, o5, hlz, hpo, j6, j7, hq2, cellsOf_page, Int.toNat_zero, Int.toNat_natCast, Bool.false_and]; rfl)]
              exact hK _
            iterate 1 (apply aops_step (by decide) rfl; · (intro K hK; simp (disch := first | omega | decide) only [go_sem, f0, f4, f5, f7, f8, o5, hlz, hpo, j6, j7, hq2, cellsOf_page, Int.toNat_zero, Int.toNat_natCast, Bool.false_and]; exact hK _))
            refine aops_nil ?_
            refine AW.ret ?_
            refine ⟨.inr rfl, ?_⟩
            (have zz : joinOK l = true := ref_yes h0 j5 hhd hq1 hq3 (fun k hk => mo0 k hk hk))
            (obtain ⟨e1, e2, e3⟩ := join_t zz; rw [e1, e2, e3]; refine leavesN ?_; refine leaves_mwp2 (rs := [.tmp 2, .tmp 3]) rfl ?_; simp (config := {failIfUnchanged := false}) [giveL, srcOne, rehome, freezeN, sub, upd, opn, aLoad, loadL, giveOne, reify, reifyL, readL, readOne, Mwp, M.bind, Mem.set, setAt, cellsL, hG, f0, f4, f5, f7, f8, o5, hlz, hpo, j6, j7, hq2]; exact ⟨List.take_of_length_le (by simp), j1.symm⟩)

end Go.Vai.R
