import Derived.Test.YtblgcekomnnfmaagRec6
import Derived.Test.YtblgcekomnnfmaaSlotPl
import Derived.Test.YtblgcekomnnfmaaVaiD
namespace Go.Vai.S7
open Go.Proofs Go.Vai Go.Vai.G Go.Vai.L Go.Vai.O Go.Vai.R Go.Vai.U Go.Vai.Z
set_option linter.unusedSimpArgs false
set_option linter.unusedVariables false

open Go.Vai.U (pslice cellsOf_ps noPtr_ps)
abbrev PS := Bool × List (BitVec 8)
def okS (x : PS) : Bool := pgGood x.2
def valS (x : PS) : Page := pgV x.2
def baseA (n : Int) (nil : Bool) (b : List (BitVec 8)) : AV := .agg [.i .i64 n, .sl 1 nil (bsl b)]
theorem cellsOf_base (n : Int) (nil : Bool) (b : List (BitVec 8)) : cellsOf (baseA n nil b) = [.i .i64 n, .sl 1 nil (bsl b)] := rfl
@[simp] theorem noPtr_base (n : Int) (nil : Bool) (b : List (BitVec 8)) : noPtr (baseA n nil b) = true := by simp [baseA, noPtr, noPtrL, noPtrL_bsl]
@[simp] theorem noPtrL_pss (ps : List PS) : noPtrL (ps.map pslice) = true := noPtrL_map noPtr_ps _
theorem good_pg {l : List (BitVec 8)} (h : pgGood l = true) : pageOK (pgV l) = true := by
  rw [pgV_is h]
  simp only [pgGood, Bool.and_eq_true] at h
  exact h.2.2.1
theorem valS_bd (x : PS) : (valS x).b.length ≤ 488 := by
  rw [valS]
  cases h : pgGood x.2 with
  | false => rw [pgV_no h]; decide
  | true => exact (page_bd (good_pg h)).2.2.2.2.2.2
def lightS (l : List PS) : Bool := ((l.take 11).all fun c => decide ((c.2.length : Int) ≤ 600)) && decide ((l.length : Int) ≤ 10)
theorem pg0 (l : List (BitVec 8)) : (¬ pgR l = 0 ↔ pgGood l = false) := by cases h : pgGood l <;> simp [pgR, h]
theorem take_ok {l : List PS} {k : Nat} (hk : k < l.length) (h : (l.take k).all okS = true) (h1 : pgGood (l[k]).2 = true) : (l.take (k + 1)).all okS = true := by
  rw [List.take_succ_eq_append_getElem hk, List.all_append, h]; simp [okS, h1]
theorem good_of_R {l : List (BitVec 8)} (h : ¬ pgR l ≠ 0) : pgGood l = true := by
  cases e : pgGood l with
  | true => rfl
  | false => exact absurd ((pg0 l).2 e) h
theorem emp_take {l : List PS} (k : Nat) (h : k ≤ l.length) : decide (k = 0) = ((l.take k).map valS).isEmpty := by cases k <;> cases l <;> simp_all
theorem emp_all {l : List PS} : decide (l.length = 0) = (l.map valS).isEmpty := by cases l <;> simp_all
set_option maxHeartbeats 4000000 in
set_option maxRecDepth 100000 in
theorem good_pagesS (nil : Bool) (l : List PS) (hl : l.length ≤ 1000000) (pl : ∀ x ∈ l, x.2.length ≤ 140737488355000 ∧ (x.1 = true → x.2 = [])) : Good Try.prog 53 [(.sl 1 nil (l.map pslice), false)] [] [(.sl 7 (pagesOf okS valS l).isEmpty ((pagesOf okS valS l).map pageA), false)] [] := by
  refine good_of_body5 27 Try.func53 rfl rfl rfl (by simp) (by simp) (by simp [noPtrL, noPtr]) (by simp [noPtrL, noPtr]) ?_
  intro s m ha hr hv hG
  have f0 : s 0 = .v (.sl 1 nil (l.map pslice)) := ha 0 _ rfl
  clear ha
  refine AW.seq ?_
  refine AW.region (cfg := cfg) ?_
  iterate 1 (apply aops_step (by decide) rfl; · (intro K hK; simp (disch := first | omega | decide) only [go_sem, f0, sz91, cellsOf_ps, cellsOf_page]; exact hK _))
  refine aops_nil ?_
  refine AW.seq ?_
  refine AW.region (cfg := cfg) ?_
  iterate 1 (apply aops_step (by decide) rfl; · (intro K hK; simp (disch := first | omega | decide) only [go_sem, f0, sz91, cellsOf_ps, cellsOf_page]; exact hK _))
  refine aops_nil ?_
  refine AW.seq ?_
  refine AW.seq ?_
  refine AW.region (cfg := cfg) ?_
  iterate 3 (apply aops_step (by decide) rfl; · (intro K hK; simp (disch := first | omega | decide) only [go_sem, f0, List.map, List.length_map, aops_len u47, cellsOf_ps, cellsOf_page]; exact hK _))
  refine aops_nil ?_
  refine AW.block ?_
  refine AW.forN (fun k σ => ∃ s m, σ = ⟨27, s, m⟩ ∧ s 0 = .v (.sl 1 nil (l.map pslice)) ∧ s 3 = .own (.var 3) (m.objs (.var 3)).1 0 (k) ∧ (m.objs (.var 3)).2 = .arr (decide (k = 0)) 7 (((l.take k).map valS).map pageA) ∧ s 8 = .v (.sl 1 nil (l.map pslice)) ∧ s 9 = .v (i64 (l.length : Int)) ∧ s 10 = .v (i64 (k : Int)) ∧ ((l.take k).all okS = true) ∧ (∀ i, (m.objs (.res i)).2 = .dead) ∧ m.G = []) (l.length) ?_ ?_ ?_
  · refine ⟨_, _, rfl, ?_, ?_, ?_, ?_, ?_, ?_, ?_, (by intro i; simp [Mem.set, hr]), (by exact hG)⟩ <;> try simp (disch := first | omega | decide) only [go_sem, f0, cellsOf_ps, cellsOf_page]
    all_goals rfl
  · clear f0 hr hG
    rintro k σ hk ⟨s, m, rfl, f0, f3, o3, f8, f9, f10, mo0, hr, hG⟩
    obtain ⟨g3, o3⟩ : ∃ g, m.objs (.var 3) = (g, .arr (decide (k = 0)) 7 (((l.take k).map valS).map pageA)) := ⟨_, Prod.ext rfl o3⟩
    rw [o3] at f3
    refine AW.seq ?_
    refine AW.region (cfg := cfg) ?_
    iterate 1 (apply aops_step (by decide) rfl; · (intro K hK; simp (disch := first | omega | decide) only [go_sem, f0, f3, f8, f9, f10, o3, cellsOf_ps, cellsOf_page]; exact hK _))
    refine aops_nil ?_
    refine AW.seq ?_
    apply AW.cond
    · simp (disch := first | omega | decide) only [go_sem, f0, f3, f8, f9, f10, o3, cellsOf_ps, cellsOf_page]; rfl
    case ht =>
      intro hb
      try simp only [Bool.or_eq_true, Bool.and_eq_true, Bool.or_eq_false_iff, Bool.and_eq_false_iff, decide_eq_true_eq, decide_eq_false_iff_not] at hb
      have hbt11 := hb
      refine AW.skip ?_
      refine AW.seq ?_
      refine AW.block ?_
      refine AW.seq ?_
      have hkl : k < l.length := hk
      obtain ⟨pk1, pk2⟩ := pl l[k] (List.getElem_mem hkl)
      have pk3 := valS_bd l[k]
      refine AW.region (cfg := cfg) ?_
      apply aops_step (by decide) rfl
      · intro K hK
        simp (disch := first | omega | decide) only [go_sem, f0, f3, f8, f9, f10, o3, act_indexAddr_s u47 ti22, List.map, cellsOf_ps, cellsOf_page]
        skip
        exact hK _
      apply aops_step (by decide) rfl
      · intro K hK
        simp (disch := first | omega | decide) only [go_sem, f0, f3, f8, f9, f10, o3, act_load_t ti22, List.map, cellsOf_ps, cellsOf_page]
        skip
        exact hK _
      iterate 1 (apply aops_step (by decide) rfl; · (intro K hK; simp (disch := first | omega | decide) only [go_sem, f0, f3, f8, f9, f10, o3, cellsOf_ps, cellsOf_page]; exact hK _))
      refine aops_nil ?_
      refine AW.seq ?_
      refine AW.region (cfg := cfg) ?_
      iterate 1 (apply aops_step (by decide) rfl; · (intro K hK; simp (disch := first | omega | decide) only [go_sem, f0, f3, f8, f9, f10, o3, cellsOf_ps, cellsOf_page]; exact hK _))
      apply aops_step (by decide) rfl
      · intro K hK
        simp (disch := first | omega | decide) only [go_sem, f0, f3, f8, f9, f10, o3, act_call, List.map, cellsOf_ps, cellsOf_page]
        apply mwp_call_r rfl rfl rfl
        · intro Q hQ
          (simp (disch := first | omega | decide) only [go_sem, f0, f3, f8, f9, f10, o3, peekL, reifyL_nil, reifyL_cons, reify_v, cellsOf_ps, cellsOf_page]; (exact hQ))
        · exact good_GetP l[k].1 l[k].2 (by omega) pk2
        · simp [-List.map_take, -List.map_drop, -List.map_append, -List.map_replicate, -List.reduceReplicate, noPtrL, noPtr, noPtrL_bsl, noPtrL_map, sub]
        · simp (disch := first | omega | decide) only [go_sem, f0, f3, f8, f9, f10, o3, cellsOf_ps, cellsOf_page]
          exact hK _
      iterate 3 (apply aops_step (by decide) rfl; · (intro K hK; simp (disch := first | omega | decide) only [go_sem, f0, f3, f8, f9, f10, o3, cellsOf_ps, cellsOf_page]; exact hK _))
      apply aops_step (by decide) rfl
      · intro K hK
        simp (disch := first | omega | decide) only [go_sem, f0, f3, f8, f9, f10, o3, act_alloc_t ti58, List.map, cellsOf_ps, cellsOf_page]
        exact hK _
      apply aops_step0 rfl
      · intro K hK
        simp (disch := first | omega | decide) only [go_sem, f0, f3, f8, f9, f10, o3, act_store_t ti58, List.map, cellsOf_ps, cellsOf_page]
        rw [mwp_store_c (by simp (disch := first | omega | decide) only [go_sem, f0, f3, f8, f9, f10, o3, cellsOf_ps, cellsOf_page]; rfl) (by rfl) (by rfl) (by rfl) (by simp)]
        try simp only [setAt, cellsL, cellsOf_agg, cellsOf_base, List.map_cons, List.map_nil, List.set_cons_zero, List.set_cons_succ, Nat.reduceAdd, Nat.zero_add, hG]
        exact hK _
      iterate 1 (apply aops_step (by decide) rfl; · (intro K hK; simp (disch := first | omega | decide) only [go_sem, f0, f3, f8, f9, f10, o3, cellsOf_ps, cellsOf_page]; exact hK _))
      refine aops_nil ?_
      refine AW.seq ?_
      refine AW.seq ?_
      refine AW.region (cfg := cfg) ?_
      iterate 2 (apply aops_step (by decide) rfl; · (intro K hK; simp (disch := first | omega | decide) only [go_sem, f0, f3, f8, f9, f10, o3, cellsOf_ps, cellsOf_page]; exact hK _))
      refine aops_nil ?_
      apply AW.cond
      · simp (disch := first | omega | decide) only [go_sem, f0, f3, f8, f9, f10, o3, cellsOf_ps, cellsOf_page]; rfl
      case ht =>
        intro hb
        try simp only [Bool.or_eq_true, Bool.and_eq_true, Bool.or_eq_false_iff, Bool.and_eq_false_iff, decide_eq_true_eq, decide_eq_false_iff_not] at hb
        have hbt20 := hb
        refine AW.exit ?_
        refine AW.seq ?_
        refine AW.region (cfg := cfg) ?_
        iterate 1 (apply aops_step (by decide) rfl; · (intro K hK; simp (disch := first | omega | decide) only [go_sem, f0, f3, f8, f9, f10, o3, cellsOf_ps, cellsOf_page]; exact hK _))
        apply aops_step (by decide) rfl
        · intro K hK
          simp (disch := first | omega | decide) only [go_sem, f0, f3, f8, f9, f10, o3, cellsOf_ps, cellsOf_page]
          rw [asg_fz (by rfl) (by decide) (by simp (disch := first | omega | decide) only [go_sem, f0, f3, f8, f9, f10, o3, cellsOf_ps, cellsOf_page] <;> rfl)]
          exact hK _
        refine aops_nil ?_
        refine AW.ret ?_
        refine ⟨.inr rfl, ?_⟩
        apply Exists.intro
        (have zz : pagesOf okS valS l = (l.take k).map valS := pages_stop okS valS hk mo0 ((pg0 _).1 (by assumption)))
        (rw [zz, ← emp_take k (by omega)])
        refine leavesN ?_
        refine leaves_mwp2 (rs := [.tmp 2]) rfl ?_; simp (config := {failIfUnchanged := false}) [giveL, srcOne, rehome, freezeN, sub, upd, opn, aLoad, loadL, giveOne, reify, reifyL, readL, readOne, Mwp, M.bind, Mem.set, setAt, cellsL, hG, f0, f3, f8, f9, f10, o3]
        exact ⟨by simp [List.take_take], rfl⟩
      case hf =>
        intro hb
        try simp only [Bool.or_eq_true, Bool.and_eq_true, Bool.or_eq_false_iff, Bool.and_eq_false_iff, decide_eq_true_eq, decide_eq_false_iff_not] at hb
        have hbt20 := hb
        refine AW.skip ?_
        refine AW.region (cfg := cfg) ?_
        iterate 1 (apply aops_step (by decide) rfl; · (intro K hK; simp (disch := first | omega | decide) only [go_sem, f0, f3, f8, f9, f10, o3, cellsOf_ps, cellsOf_page]; exact hK _))
        apply aops_step (by decide) rfl
        · intro K hK
          simp (disch := first | omega | decide) only [go_sem, f0, f3, f8, f9, f10, o3, act_load_t ti58, List.map, cellsOf_ps, cellsOf_page]
          rw [mwp_load_bs (by simp (disch := first | omega | decide) only [go_sem, f0, f3, f8, f9, f10, o3, cellsOf_ps, cellsOf_page]; rfl) (by simp [setAt])]
          exact hK _
        apply aops_step (by decide) rfl
        · intro K hK
          rw [act_bs el91 ti58]
          (simp [-List.map_take, -List.map_drop, -BitVec.toNat_ofInt, -BitVec.ofInt_natCast, -BitVec.toNat_setWidth, -BitVec.toNat_ushiftRight, -BitVec.toNat_umod, -BitVec.toNat_udiv, go_sem, elems_v, cellishAV, Value.oneCell', isAggAV, partsOf, TI.z, TI.mk1, f0, f3, f8, f9, f10, o3]; exact hK _)
        apply aops_step (by decide) rfl
        · intro K hK
          simp (disch := first | omega | decide) only [go_sem, f0, f3, f8, f9, f10, o3, List.map, cellsOf_ps, cellsOf_page]
          apply mwp_append2 el91 ti58 u91
          case hpk => intro Q hQ; (rw [peek_own (by simp (disch := first | omega | decide) only [go_sem, f0, f3, f8, f9, f10, o3, cellsOf_ps, cellsOf_page]; rfl)]; (try rw [sub_full (by rfl)]); exact hQ)
          case hs' => rfl
          case ho => simp (disch := first | omega | decide) only [go_sem, f0, f3, f8, f9, f10, o3, cellsOf_ps, cellsOf_page]; rfl
          case hsz => rfl
          case hhi => (simp; omega)
          case hb => (simp [sub, roomB]; omega)
          case hy => exact all_cells rfl
          case k => (try simp only [List.nil_append, ← List.map_append, Bool.false_and]); exact hK _
        apply aops_step (by decide) rfl
        · intro K hK
          simp (disch := first | omega | decide) only [go_sem, f0, f3, f8, f9, f10, o3, cellsOf_ps, cellsOf_page]
          rw [asg_tmp (by simp (disch := first | omega | decide) only [go_sem, f0, f3, f8, f9, f10, o3, cellsOf_ps, cellsOf_page]; rfl)]
          exact hK _
        refine aops_nil ?_
        refine AW.region (cfg := cfg) ?_
        iterate 2 (apply aops_step (by decide) rfl; · (intro K hK; simp (disch := first | omega | decide) only [go_sem, f0, f3, f8, f9, f10, o3, cellsOf_ps, cellsOf_page]; exact hK _))
        refine aops_nil ?_
        refine ⟨_, _, rfl, ?_, ?_, ?_, ?_, ?_, ?_, ?_, (by intro i; simp [Mem.set, hr]), (by exact hG)⟩ <;> try simp (disch := first | omega | decide) only [go_sem, f0, f3, f8, f9, f10, o3, cellsOf_ps, cellsOf_page]
        all_goals first | rfl | (exact take_ok hk mo0 (good_of_R hb)) | (rw [List.take_succ_eq_append_getElem hk]; simp [pageA, valS, -List.take_append_getElem]; done)
    case hf =>
      intro hb
      try simp only [Bool.or_eq_true, Bool.and_eq_true, Bool.or_eq_false_iff, Bool.and_eq_false_iff, decide_eq_true_eq, decide_eq_false_iff_not] at hb
      have hbt11 := hb
      refine AW.exit ?_
      refine AW.seq ?_
      refine AW.region (cfg := cfg) ?_
      iterate 1 (apply aops_step (by decide) rfl; · (intro K hK; simp (disch := first | omega | decide) only [go_sem, f0, f3, f8, f9, f10, o3, cellsOf_ps, cellsOf_page]; exact hK _))
      apply aops_step (by decide) rfl
      · intro K hK
        simp (disch := first | omega | decide) only [go_sem, f0, f3, f8, f9, f10, o3, cellsOf_ps, cellsOf_page]
        rw [asg_fz (by rfl) (by decide) (by simp (disch := first | omega | decide) only [go_sem, f0, f3, f8, f9, f10, o3, cellsOf_ps, cellsOf_page] <;> rfl)]
        exact hK _
      refine aops_nil ?_
      refine AW.ret ?_
      refine ⟨.inr rfl, ?_⟩
      apply Exists.intro
      (have zz : pagesOf okS valS l = (l.take k).map valS := (by have e : k = l.length := (by omega); rw [e, List.take_length] at mo0; rw [e, List.take_length]; exact pages_full okS valS mo0))
      (rw [zz, ← emp_take k (by omega)])
      refine leavesN ?_
      refine leaves_mwp2 (rs := [.tmp 2]) rfl ?_; simp (config := {failIfUnchanged := false}) [giveL, srcOne, rehome, freezeN, sub, upd, opn, aLoad, loadL, giveOne, reify, reifyL, readL, readOne, Mwp, M.bind, Mem.set, setAt, cellsL, hG, f0, f3, f8, f9, f10, o3]
      exact ⟨by simp [List.take_take], rfl⟩
  · clear f0 hr hG
    rintro σ ⟨s, m, rfl, f0, f3, o3, f8, f9, f10, mo0, hr, hG⟩
    obtain ⟨g3, o3⟩ : ∃ g, m.objs (.var 3) = (g, .arr (decide (l.length = 0)) 7 (((l.take l.length).map valS).map pageA)) := ⟨_, Prod.ext rfl o3⟩
    rw [o3] at f3
    refine AW.seq ?_
    refine AW.region (cfg := cfg) ?_
    iterate 1 (apply aops_step (by decide) rfl; · (intro K hK; simp (disch := first | omega | decide) only [go_sem, f0, f3, f8, f9, f10, o3, cellsOf_ps, cellsOf_page]; exact hK _))
    refine aops_nil ?_
    refine AW.seq ?_
    apply AW.cond
    · simp (disch := first | omega | decide) only [go_sem, f0, f3, f8, f9, f10, o3, cellsOf_ps, cellsOf_page]; rfl
    case ht => intro hb; (simp at hb; done)
    case hf =>
    intro hb
    have hbt11 := hb
    refine AW.exit ?_
    refine AW.seq ?_
    refine AW.region (cfg := cfg) ?_
    iterate 1 (apply aops_step (by decide) rfl; · (intro K hK; simp (disch := first | omega | decide) only [go_sem, f0, f3, f8, f9, f10, o3, cellsOf_ps, cellsOf_page]; exact hK _))
    apply aops_step (by decide) rfl
    · intro K hK
      simp (disch := first | omega | decide) only [go_sem, f0, f3, f8, f9, f10, o3, cellsOf_ps, cellsOf_page]
      rw [asg_fz (by rfl) (by decide) (by simp (disch := first | omega | decide) only [go_sem, f0, f3, f8, f9, f10, o3, cellsOf_ps, cellsOf_page] <;> rfl)]
      exact hK _
    refine aops_nil ?_
    refine AW.ret ?_
    refine ⟨.inr rfl, ?_⟩
    apply Exists.intro
    (have zz : pagesOf okS valS l = l.map valS := pages_full okS valS (by simpa using mo0))
    (rw [zz, ← emp_all])
    refine leavesN ?_
    refine leaves_mwp2 (rs := [.tmp 2]) rfl ?_; simp (config := {failIfUnchanged := false}) [giveL, srcOne, rehome, freezeN, sub, upd, opn, aLoad, loadL, giveOne, reify, reifyL, readL, readOne, Mwp, M.bind, Mem.set, setAt, cellsL, hG, f0, f3, f8, f9, f10, o3]
    exact ⟨List.take_of_length_le (by simp), rfl⟩

end Go.Vai.S7
