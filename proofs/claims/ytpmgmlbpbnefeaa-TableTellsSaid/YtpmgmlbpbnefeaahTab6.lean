import Derived.Test.YtpmgmlbpbnefeaahTab5
namespace Go.Vai.T
open Go.Proofs Go.Vai
set_option linter.unusedSimpArgs false
set_option linter.unusedVariables false

set_option maxHeartbeats 4000000 in
set_option maxRecDepth 100000 in
theorem good_thoseL (nil : Bool) (l : List Nr) (hl : l.length ≤ 1000000) (fm ft : FuncId) (p : Nr → Bool) (t : Nr → Pr) (hpu1 : cfg.pure fm = true) (hsc1 : cfg.scalar fm = true) (hpu2 : cfg.pure ft = true) (hsc2 : cfg.scalar ft = false) (hp : ∀ x, Good Try.prog fm [(nrA x, false)] [] [(.b (p x), false)] []) (ht : ∀ x, Good Try.prog ft [(nrA x, false)] [] [(prA (t x), false)] []) : Good Try.prog 31 [(.sl 8 nil (l.map nrA), false), (.clo fm [], false), (.clo ft [], false)] [] [(.sl 2 (thR p t l).isEmpty ((thR p t l).map prA), false)] [] := by
 refine good_of_body5 30 Try.func31 rfl rfl rfl (by simp) (by simp) (by simp [noPtrL, noPtr]) (by simp [noPtrL, noPtr]) ?_
 intro s m ha hr hv hG
 have f0 : s 0 = .v (.sl 8 nil (l.map nrA)) := ha 0 _ rfl
 have f1 : s 1 = .v (.clo fm []) := ha 1 _ rfl
 have f2 : s 2 = .v (.clo ft []) := ha 2 _ rfl
 clear ha
 refine AW.sr (cfg := cfg) ?_
 iterate 1 (apply aops_step (by decide) rfl; · (intro K hK; simp (disch := first | omega | decide) only [go_sem, f0, f1, f2, sz28]; exact hK _))
 refine aops_nil ?_
 refine AW.sr (cfg := cfg) ?_
 iterate 1 (apply aops_step (by decide) rfl; · (intro K hK; simp (disch := first | omega | decide) only [go_sem, f0, f1, f2, sz28]; exact hK _))
 refine aops_nil ?_
 refine AW.seq ?_
 refine AW.sr (cfg := cfg) ?_
 iterate 1 (apply aops_step (by decide) rfl; · (intro K hK; simp (disch := first | omega | decide) only [go_sem, f0, f1, f2]; exact hK _))
 apply aops_step (by decide) rfl
 ·intro K hK
  simp (disch := first | omega | decide) only [go_sem, f0, f1, f2, act_call, List.map]
  apply mwp_call_s rfl rfl rfl
  ·intro Q hQ
   (simp (disch := first | omega | decide) only [go_sem, f0, f1, f2, peekL, reifyL_nil, reifyL_cons, reify_v]; (exact hQ))
  ·exact good_CheckT nil l (by omega)
  ·simp [-List.map_take, -List.map_drop, -List.map_append, -List.map_replicate, -List.reduceReplicate, noPtrL, noPtr, noPtrL_bsl, noPtrL_map, sub]
  ·rfl
  ·exact hK _
 iterate 1 (apply aops_step (by decide) rfl; · (intro K hK; simp (disch := first | omega | decide) only [go_sem, f0, f1, f2]; exact hK _))
 refine aops_nil ?_
 apply AW.cond
 ·(simp only [go_sem, f0, f1, f2]; rfl)
 case ht =>
  intro hb
  try simp only [bo1, bo2, bo3, bo4, bo5, bo6] at hb
  have hbt12 := hb
  refine AW.sr (cfg := cfg) ?_
  iterate 1 (apply aops_step (by decide) rfl; · (intro K hK; simp (disch := first | omega | decide) only [go_sem, f0, f1, f2, sz28]; exact hK _))
  refine aops_nil ?_
  refine AW.ret ?_
  refine ⟨.inr rfl, ?_⟩
  apply Exists.intro
  (have zz : thR p t l = [] := by rw [thR, tab_1 (by assumption)]; rfl)
  rw [zz]
  refine leavesN ?_
  refine leaves_mwp2 (rs := [.tmp 6]) rfl ?_; simp (config := {failIfUnchanged := false}) [giveL, srcOne, rehome, freezeN, sub, upd, opn, aLoad, loadL, giveOne, reify, reifyL, readL, readOne, Mwp, M.bind, Mem.set, setAt, cellsL, hG, f0, f1, f2]
  exact rfl
 case hf =>
  intro hb
  try simp only [bo1, bo2, bo3, bo4, bo5, bo6] at hb
  have hbt12 := hb
  refine AW.skip ?_
  refine AW.seq ?_
  refine AW.sr (cfg := cfg) ?_
  iterate 3 (apply aops_step (by decide) rfl; · (intro K hK; simp (disch := first | omega | decide) only [go_sem, f0, f1, f2, List.map, List.length_map, aops_len u22]; exact hK _))
  refine aops_nil ?_
  refine AW.block ?_
  refine AW.forN (fun k σ => ∃ s m, σ = ⟨30, s, m⟩ ∧ s 1 = .v (.clo fm []) ∧ s 2 = .v (.clo ft []) ∧ s 7 = .own (.var 7) (m.objs (.var 7)).1 0 ((thL p t (l.take k)).length) ∧ (m.objs (.var 7)).2 = .arr (thL p t (l.take k)).isEmpty 2 ((thL p t (l.take k)).map prA) ∧ s 13 = .v (.sl 8 nil (l.map nrA)) ∧ s 14 = .v (i64 (l.length : Int)) ∧ s 15 = .v (i64 (k : Int)) ∧ (∀ i, (m.objs (.res i)).2 = .dead) ∧ m.G = []) (l.length) ?_ ?_ ?_
  ·refine ⟨_, _, rfl, ?_, ?_, ?_, ?_, ?_, ?_, ?_, (by intro i; simp [Mem.set, hr]), (by exact hG)⟩ <;> try simp (disch := first | omega | decide) only [go_sem, f0, f1, f2]
   all_goals rfl
  ·clear f0 f1 f2 hr hG
   rintro k σ hk ⟨s, m, rfl, f1, f2, f7, o7, f13, f14, f15, hr, hG⟩
   obtain ⟨g7, o7⟩ : ∃ g, m.objs (.var 7) = (g, .arr (thL p t (l.take k)).isEmpty 2 ((thL p t (l.take k)).map prA)) := ⟨_, Prod.ext rfl o7⟩
   rw [o7] at f7
   refine AW.sr (cfg := cfg) ?_
   iterate 1 (apply aops_step (by decide) rfl; · (intro K hK; simp (disch := first | omega | decide) only [go_sem, f1, f2, f7, f13, f14, f15, o7]; exact hK _))
   refine aops_nil ?_
   refine AW.seq ?_
   apply AW.cond
   ·(simp only [go_sem, f1, f2, f7, f13, f14, f15, o7]; rfl)
   case hf => intro hb; (simp at hb; omega)
   case ht =>
   intro hb
   have hbt16 := hb
   refine AW.skip ?_
   refine AW.seq ?_
   refine AW.block ?_
   refine AW.sr (cfg := cfg) ?_
   apply aops_step (by decide) rfl
   ·intro K hK
    simp (disch := first | omega | decide) only [go_sem, f1, f2, f7, f13, f14, f15, o7, act_indexAddr_s u22 ti36, List.map]
    skip
    exact hK _
   apply aops_step (by decide) rfl
   ·intro K hK
    simp (disch := first | omega | decide) only [go_sem, f1, f2, f7, f13, f14, f15, o7, act_load_t ti36, List.map]
    rw [mwp_load_is (by simp)]
    exact hK _
   apply aops_step (by decide) rfl
   ·intro K hK
    simp (disch := first | omega | decide) only [go_sem, f1, f2, f7, f13, f14, f15, o7, act_alloc_t ti36, List.map]
    exact hK _
   apply aops_step0 rfl
   ·intro K hK
    simp (disch := first | omega | decide) only [go_sem, f1, f2, f7, f13, f14, f15, o7, act_store_t ti36, List.map]
    rw [mwp_store_c (by simp (disch := first | omega | decide) only [go_sem, f1, f2, f7, f13, f14, f15, o7]; rfl) (by rfl) (by rfl) (by rfl) (by simp)]
    try simp only [setAt, cellsL, cellsOf_agg, cellsOf_base, List.map_cons, List.map_nil, List.set_cons_zero, List.set_cons_succ, Nat.reduceAdd, Nat.zero_add, hG]
    exact hK _
   refine aops_nil ?_
   refine AW.sr (cfg := cfg) ?_
   iterate 1 (apply aops_step (by decide) rfl; · (intro K hK; simp (disch := first | omega | decide) only [go_sem, f1, f2, f7, f13, f14, f15, o7]; exact hK _))
   apply aops_step (by decide) rfl
   ·intro K hK
    simp (disch := first | omega | decide) only [go_sem, f1, f2, f7, f13, f14, f15, o7, act_load_t ti36, List.map]
    rw [mwp_load_bs (by simp (disch := first | omega | decide) only [go_sem, f1, f2, f7, f13, f14, f15, o7]; rfl) (by simp [setAt])]
    exact hK _
   apply aops_step (by decide) rfl
   ·intro K hK
    simp (disch := first | omega | decide) only [go_sem, f1, f2, f7, f13, f14, f15, o7, act_callv, List.map]
    apply mwp_call_sc hpu1 rfl hsc1
    ·intro Q hQ
     simp (disch := first | omega | decide) only [go_sem, f1, f2, f7, f13, f14, f15, o7, peekL, reifyL_nil, reifyL_cons, reify_v]
     exact hQ
    ·exact hp l[k]
    ·simp [noPtrL, noPtr, nrA]
    ·rfl
    ·exact hK _
   refine aops_nil ?_
   apply AW.cond
   ·(simp only [go_sem, f1, f2, f7, f13, f14, f15, o7]; rfl)
   case ht =>
    intro hb
    try simp only [bo1, bo2, bo3, bo4, bo5, bo6] at hb
    have hbt21 := hb
    have wb := th_le p t l k
    refine AW.region (cfg := cfg) ?_
    iterate 2 (apply aops_step (by decide) rfl; · (intro K hK; simp (disch := first | omega | decide) only [go_sem, f1, f2, f7, f13, f14, f15, o7]; exact hK _))
    apply aops_step (by decide) rfl
    ·intro K hK
     simp (disch := first | omega | decide) only [go_sem, f1, f2, f7, f13, f14, f15, o7, act_load_t ti36, List.map]
     rw [mwp_load_bs (by simp (disch := first | omega | decide) only [go_sem, f1, f2, f7, f13, f14, f15, o7]; rfl) (by simp [setAt])]
     exact hK _
    apply aops_step (by decide) rfl
    ·intro K hK
     simp (disch := first | omega | decide) only [go_sem, f1, f2, f7, f13, f14, f15, o7, act_callv, List.map]
     apply mwp_call_r hpu2 rfl hsc2
     ·intro Q hQ
      (simp (disch := first | omega | decide) only [go_sem, f1, f2, f7, f13, f14, f15, o7, peekL, reifyL_nil, reifyL_cons, reify_v]; (exact hQ))
     ·exact ht l[k]
     ·simp [noPtrL, noPtr, nrA]
     ·simp (disch := first | omega | decide) only [go_sem, f1, f2, f7, f13, f14, f15, o7]
      exact hK _
    apply aops_step (by decide) rfl
    ·intro K hK
     rw [act_bs el28 ti34]
     (simp [-List.map_take, -List.map_drop, -BitVec.toNat_ofInt, -BitVec.ofInt_natCast, -BitVec.toNat_setWidth, -BitVec.toNat_ushiftRight, -BitVec.toNat_umod, -BitVec.toNat_udiv, go_sem, elems_v, cellishAV, Value.oneCell', isAggAV, partsOf, TI.z, TI.mk1, f1, f2, f7, f13, f14, f15, o7]; exact hK _)
    apply aops_step (by decide) rfl
    ·intro K hK
     simp (disch := first | omega | decide) only [go_sem, f1, f2, f7, f13, f14, f15, o7, List.map]
     apply mwp_append2 el28 ti34 u28
     case hpk => intro Q hQ; (rw [peek_own (by simp (disch := first | omega | decide) only [go_sem, f1, f2, f7, f13, f14, f15, o7]; rfl)]; (try rw [sub_full (by rfl)]); exact hQ)
     case hs' => rfl
     case ho => simp (disch := first | omega | decide) only [go_sem, f1, f2, f7, f13, f14, f15, o7]; rfl
     case hsz => rfl
     case hhi => (simp; done)
     case hb => (simp [sub, roomB]; omega)
     case hy => exact all_cells rfl
     case k => (try simp only [List.nil_append, ← List.map_append, Bool.false_and]); exact hK _
    apply aops_step (by decide) rfl
    ·intro K hK
     simp (disch := first | omega | decide) only [go_sem, f1, f2, f7, f13, f14, f15, o7]
     rw [asg_tmp (by simp (disch := first | omega | decide) only [go_sem, f1, f2, f7, f13, f14, f15, o7]; rfl)]
     exact hK _
    refine aops_nil ?_
    refine AW.region (cfg := cfg) ?_
    iterate 2 (apply aops_step (by decide) rfl; · (intro K hK; simp (disch := first | omega | decide) only [go_sem, f1, f2, f7, f13, f14, f15, o7]; exact hK _))
    refine aops_nil ?_
    refine ⟨_, _, rfl, ?_, ?_, ?_, ?_, ?_, ?_, ?_, (by intro i; simp [Mem.set, hr]), (by exact hG)⟩ <;> try simp (disch := first | omega | decide) only [go_sem, f1, f2, f7, f13, f14, f15, o7]
    all_goals first | rfl | (rw [th_yes hk hb]; simp; done)
   case hf =>
    intro hb
    try simp only [bo1, bo2, bo3, bo4, bo5, bo6] at hb
    have hbt21 := hb
    refine AW.skip ?_
    refine AW.region (cfg := cfg) ?_
    iterate 2 (apply aops_step (by decide) rfl; · (intro K hK; simp (disch := first | omega | decide) only [go_sem, f1, f2, f7, f13, f14, f15, o7]; exact hK _))
    refine aops_nil ?_
    refine ⟨_, _, rfl, ?_, ?_, ?_, ?_, ?_, ?_, ?_, (by intro i; simp [Mem.set, hr]), (by exact hG)⟩ <;> try simp (disch := first | omega | decide) only [go_sem, f1, f2, f7, f13, f14, f15, o7]
    all_goals first | rfl | (rw [th_no hk hb]; done)
  ·clear f0 f1 f2 hr hG
   rintro σ ⟨s, m, rfl, f1, f2, f7, o7, f13, f14, f15, hr, hG⟩
   obtain ⟨g7, o7⟩ : ∃ g, m.objs (.var 7) = (g, .arr (thL p t (l.take l.length)).isEmpty 2 ((thL p t (l.take l.length)).map prA)) := ⟨_, Prod.ext rfl o7⟩
   rw [o7] at f7
   refine AW.sr (cfg := cfg) ?_
   iterate 1 (apply aops_step (by decide) rfl; · (intro K hK; simp (disch := first | omega | decide) only [go_sem, f1, f2, f7, f13, f14, f15, o7]; exact hK _))
   refine aops_nil ?_
   refine AW.seq ?_
   apply AW.cond
   ·(simp only [go_sem, f1, f2, f7, f13, f14, f15, o7]; rfl)
   case ht => intro hb; (simp at hb; done)
   case hf =>
   intro hb
   have hbt16 := hb
   refine AW.exit ?_
   refine AW.sr (cfg := cfg) ?_
   iterate 1 (apply aops_step (by decide) rfl; · (intro K hK; simp (disch := first | omega | decide) only [go_sem, f1, f2, f7, f13, f14, f15, o7]; exact hK _))
   apply aops_step (by decide) rfl
   ·intro K hK
    simp (disch := first | omega | decide) only [go_sem, f1, f2, f7, f13, f14, f15, o7]
    rw [asg_fz (by rfl) (by decide) (by simp (disch := first | omega | decide) only [go_sem, f1, f2, f7, f13, f14, f15, o7] <;> rfl)]
    exact hK _
   refine aops_nil ?_
   refine AW.ret ?_
   refine ⟨.inr rfl, ?_⟩
   apply Exists.intro
   (have zz : thR p t l = thL p t (l.take l.length) := by rw [thR, tab_0 (by assumption), List.take_length]; rfl)
   rw [zz]
   refine leavesN ?_
   refine leaves_mwp2 (rs := [.tmp 6]) rfl ?_; simp (config := {failIfUnchanged := false}) [giveL, srcOne, rehome, freezeN, sub, upd, opn, aLoad, loadL, giveOne, reify, reifyL, readL, readOne, Mwp, M.bind, Mem.set, setAt, cellsL, hG, f1, f2, f7, f13, f14, f15, o7]
   exact ⟨List.take_of_length_le (by simp), rfl⟩

set_option maxHeartbeats 4000000 in
set_option maxRecDepth 100000 in
theorem good_thoseI (nil : Bool) (l : List Nr) (hl : l.length ≤ 1000000) (fm ft : FuncId) (p : Nr → Bool) (t : Nr → Int) (hpu1 : cfg.pure fm = true) (hsc1 : cfg.scalar fm = true) (hpu2 : cfg.pure ft = true) (hsc2 : cfg.scalar ft = true) (hp : ∀ x, Good Try.prog fm [(nrA x, false)] [] [(.b (p x), false)] []) (ht : ∀ x, Good Try.prog ft [(nrA x, false)] [] [(i64 (t x), false)] []) : Good Try.prog 28 [(.sl 8 nil (l.map nrA), false), (.clo fm [], false), (.clo ft [], false)] [] [(.sl 1 (thR p t l).isEmpty ((thR p t l).map i64), false)] [] := by
 refine good_of_body5 30 Try.func28 rfl rfl rfl (by simp) (by simp) (by simp [noPtrL, noPtr]) (by simp [noPtrL, noPtr]) ?_
 intro s m ha hr hv hG
 have f0 : s 0 = .v (.sl 8 nil (l.map nrA)) := ha 0 _ rfl
 have f1 : s 1 = .v (.clo fm []) := ha 1 _ rfl
 have f2 : s 2 = .v (.clo ft []) := ha 2 _ rfl
 clear ha
 refine AW.sr (cfg := cfg) ?_
 iterate 1 (apply aops_step (by decide) rfl; · (intro K hK; simp (disch := first | omega | decide) only [go_sem, f0, f1, f2, sz26]; exact hK _))
 refine aops_nil ?_
 refine AW.sr (cfg := cfg) ?_
 iterate 1 (apply aops_step (by decide) rfl; · (intro K hK; simp (disch := first | omega | decide) only [go_sem, f0, f1, f2, sz26]; exact hK _))
 refine aops_nil ?_
 refine AW.seq ?_
 refine AW.sr (cfg := cfg) ?_
 iterate 1 (apply aops_step (by decide) rfl; · (intro K hK; simp (disch := first | omega | decide) only [go_sem, f0, f1, f2]; exact hK _))
 apply aops_step (by decide) rfl
 ·intro K hK
  simp (disch := first | omega | decide) only [go_sem, f0, f1, f2, act_call, List.map]
  apply mwp_call_s rfl rfl rfl
  ·intro Q hQ
   (simp (disch := first | omega | decide) only [go_sem, f0, f1, f2, peekL, reifyL_nil, reifyL_cons, reify_v]; (exact hQ))
  ·exact good_CheckT nil l (by omega)
  ·simp [-List.map_take, -List.map_drop, -List.map_append, -List.map_replicate, -List.reduceReplicate, noPtrL, noPtr, noPtrL_bsl, noPtrL_map, sub]
  ·rfl
  ·exact hK _
 iterate 1 (apply aops_step (by decide) rfl; · (intro K hK; simp (disch := first | omega | decide) only [go_sem, f0, f1, f2]; exact hK _))
 refine aops_nil ?_
 apply AW.cond
 ·(simp only [go_sem, f0, f1, f2]; rfl)
 case ht =>
  intro hb
  try simp only [bo1, bo2, bo3, bo4, bo5, bo6] at hb
  have hbt12 := hb
  refine AW.sr (cfg := cfg) ?_
  iterate 1 (apply aops_step (by decide) rfl; · (intro K hK; simp (disch := first | omega | decide) only [go_sem, f0, f1, f2, sz26]; exact hK _))
  refine aops_nil ?_
  refine AW.ret ?_
  refine ⟨.inr rfl, ?_⟩
  apply Exists.intro
  (have zz : thR p t l = [] := by rw [thR, tab_1 (by assumption)]; rfl)
  rw [zz]
  refine leavesN ?_
  refine leaves_mwp2 (rs := [.tmp 6]) rfl ?_; simp (config := {failIfUnchanged := false}) [giveL, srcOne, rehome, freezeN, sub, upd, opn, aLoad, loadL, giveOne, reify, reifyL, readL, readOne, Mwp, M.bind, Mem.set, setAt, cellsL, hG, f0, f1, f2]
  exact rfl
 case hf =>
  intro hb
  try simp only [bo1, bo2, bo3, bo4, bo5, bo6] at hb
  have hbt12 := hb
  refine AW.skip ?_
  refine AW.seq ?_
  refine AW.sr (cfg := cfg) ?_
  iterate 3 (apply aops_step (by decide) rfl; · (intro K hK; simp (disch := first | omega | decide) only [go_sem, f0, f1, f2, List.map, List.length_map, aops_len u22]; exact hK _))
  refine aops_nil ?_
  refine AW.block ?_
  refine AW.forN (fun k σ => ∃ s m, σ = ⟨30, s, m⟩ ∧ s 1 = .v (.clo fm []) ∧ s 2 = .v (.clo ft []) ∧ s 7 = .own (.var 7) (m.objs (.var 7)).1 0 ((thL p t (l.take k)).length) ∧ (m.objs (.var 7)).2 = .arr (thL p t (l.take k)).isEmpty 1 ((thL p t (l.take k)).map i64) ∧ s 13 = .v (.sl 8 nil (l.map nrA)) ∧ s 14 = .v (i64 (l.length : Int)) ∧ s 15 = .v (i64 (k : Int)) ∧ (∀ i, (m.objs (.res i)).2 = .dead) ∧ m.G = []) (l.length) ?_ ?_ ?_
  ·refine ⟨_, _, rfl, ?_, ?_, ?_, ?_, ?_, ?_, ?_, (by intro i; simp [Mem.set, hr]), (by exact hG)⟩ <;> try simp (disch := first | omega | decide) only [go_sem, f0, f1, f2]
   all_goals rfl
  ·clear f0 f1 f2 hr hG
   rintro k σ hk ⟨s, m, rfl, f1, f2, f7, o7, f13, f14, f15, hr, hG⟩
   obtain ⟨g7, o7⟩ : ∃ g, m.objs (.var 7) = (g, .arr (thL p t (l.take k)).isEmpty 1 ((thL p t (l.take k)).map i64)) := ⟨_, Prod.ext rfl o7⟩
   rw [o7] at f7
   refine AW.sr (cfg := cfg) ?_
   iterate 1 (apply aops_step (by decide) rfl; · (intro K hK; simp (disch := first | omega | decide) only [go_sem, f1, f2, f7, f13, f14, f15, o7]; exact hK _))
   refine aops_nil ?_
   refine AW.seq ?_
   apply AW.cond
   ·(simp only [go_sem, f1, f2, f7, f13, f14, f15, o7]; rfl)
   case hf => intro hb; (simp at hb; omega)
   case ht =>
   intro hb
   have hbt16 := hb
   refine AW.skip ?_
   refine AW.seq ?_
   refine AW.block ?_
   refine AW.sr (cfg := cfg) ?_
   apply aops_step (by decide) rfl
   ·intro K hK
    simp (disch := first | omega | decide) only [go_sem, f1, f2, f7, f13, f14, f15, o7, act_indexAddr_s u22 ti36, List.map]
    skip
    exact hK _
   apply aops_step (by decide) rfl
   ·intro K hK
    simp (disch := first | omega | decide) only [go_sem, f1, f2, f7, f13, f14, f15, o7, act_load_t ti36, List.map]
    rw [mwp_load_is (by simp)]
    exact hK _
   apply aops_step (by decide) rfl
   ·intro K hK
    simp (disch := first | omega | decide) only [go_sem, f1, f2, f7, f13, f14, f15, o7, act_alloc_t ti36, List.map]
    exact hK _
   apply aops_step0 rfl
   ·intro K hK
    simp (disch := first | omega | decide) only [go_sem, f1, f2, f7, f13, f14, f15, o7, act_store_t ti36, List.map]
    rw [mwp_store_c (by simp (disch := first | omega | decide) only [go_sem, f1, f2, f7, f13, f14, f15, o7]; rfl) (by rfl) (by rfl) (by rfl) (by simp)]
    try simp only [setAt, cellsL, cellsOf_agg, cellsOf_base, List.map_cons, List.map_nil, List.set_cons_zero, List.set_cons_succ, Nat.reduceAdd, Nat.zero_add, hG]
    exact hK _
   refine aops_nil ?_
   refine AW.sr (cfg := cfg) ?_
   iterate 1 (apply aops_step (by decide) rfl; · (intro K hK; simp (disch := first | omega | decide) only [go_sem, f1, f2, f7, f13, f14, f15, o7]; exact hK _))
   apply aops_step (by decide) rfl
   ·intro K hK
    simp (disch := first | omega | decide) only [go_sem, f1, f2, f7, f13, f14, f15, o7, act_load_t ti36, List.map]
    rw [mwp_load_bs (by simp (disch := first | omega | decide) only [go_sem, f1, f2, f7, f13, f14, f15, o7]; rfl) (by simp [setAt])]
    exact hK _
   apply aops_step (by decide) rfl
   ·intro K hK
    simp (disch := first | omega | decide) only [go_sem, f1, f2, f7, f13, f14, f15, o7, act_callv, List.map]
    apply mwp_call_sc hpu1 rfl hsc1
    ·intro Q hQ
     simp (disch := first | omega | decide) only [go_sem, f1, f2, f7, f13, f14, f15, o7, peekL, reifyL_nil, reifyL_cons, reify_v]
     exact hQ
    ·exact hp l[k]
    ·simp [noPtrL, noPtr, nrA]
    ·rfl
    ·exact hK _
   refine aops_nil ?_
   apply AW.cond
   ·(simp only [go_sem, f1, f2, f7, f13, f14, f15, o7]; rfl)
   case ht =>
    intro hb
    try simp only [bo1, bo2, bo3, bo4, bo5, bo6] at hb
    have hbt21 := hb
    have wb := th_le p t l k
    refine AW.region (cfg := cfg) ?_
    iterate 2 (apply aops_step (by decide) rfl; · (intro K hK; simp (disch := first | omega | decide) only [go_sem, f1, f2, f7, f13, f14, f15, o7]; exact hK _))
    apply aops_step (by decide) rfl
    ·intro K hK
     simp (disch := first | omega | decide) only [go_sem, f1, f2, f7, f13, f14, f15, o7, act_load_t ti36, List.map]
     rw [mwp_load_bs (by simp (disch := first | omega | decide) only [go_sem, f1, f2, f7, f13, f14, f15, o7]; rfl) (by simp [setAt])]
     exact hK _
    apply aops_step (by decide) rfl
    ·intro K hK
     simp (disch := first | omega | decide) only [go_sem, f1, f2, f7, f13, f14, f15, o7, act_callv, List.map]
     apply mwp_call_sc hpu2 rfl hsc2
     ·intro Q hQ
      simp (disch := first | omega | decide) only [go_sem, f1, f2, f7, f13, f14, f15, o7, peekL, reifyL_nil, reifyL_cons, reify_v]
      exact hQ
     ·exact ht l[k]
     ·simp [noPtrL, noPtr, nrA]
     ·rfl
     ·exact hK _
    apply aops_step (by decide) rfl
    ·intro K hK
     rw [act_bs el26 ti3]
     (simp [-List.map_take, -List.map_drop, -BitVec.toNat_ofInt, -BitVec.ofInt_natCast, -BitVec.toNat_setWidth, -BitVec.toNat_ushiftRight, -BitVec.toNat_umod, -BitVec.toNat_udiv, go_sem, elems_v, cellishAV, Value.oneCell', isAggAV, partsOf, TI.z, TI.mk1, f1, f2, f7, f13, f14, f15, o7]; exact hK _)
    apply aops_step (by decide) rfl
    ·intro K hK
     simp (disch := first | omega | decide) only [go_sem, f1, f2, f7, f13, f14, f15, o7, List.map]
     apply mwp_append2 el26 ti3 u26
     case hpk => intro Q hQ; (rw [peek_own (by simp (disch := first | omega | decide) only [go_sem, f1, f2, f7, f13, f14, f15, o7]; rfl)]; (try rw [sub_full (by rfl)]); exact hQ)
     case hs' => rfl
     case ho => simp (disch := first | omega | decide) only [go_sem, f1, f2, f7, f13, f14, f15, o7]; rfl
     case hsz => rfl
     case hhi => (simp; done)
     case hb => (simp only [List.length_cons, List.length_nil, List.length_map, Nat.zero_add, Nat.reduceAdd, roomB]; omega)
     case hy => exact all_cells rfl
     case k => (try simp only [List.nil_append, ← List.map_append, Bool.false_and]); exact hK _
    apply aops_step (by decide) rfl
    ·intro K hK
     simp (disch := first | omega | decide) only [go_sem, f1, f2, f7, f13, f14, f15, o7]
     rw [asg_tmp (by simp (disch := first | omega | decide) only [go_sem, f1, f2, f7, f13, f14, f15, o7]; rfl)]
     exact hK _
    refine aops_nil ?_
    refine AW.region (cfg := cfg) ?_
    iterate 2 (apply aops_step (by decide) rfl; · (intro K hK; simp (disch := first | omega | decide) only [go_sem, f1, f2, f7, f13, f14, f15, o7]; exact hK _))
    refine aops_nil ?_
    refine ⟨_, _, rfl, ?_, ?_, ?_, ?_, ?_, ?_, ?_, (by intro i; simp [Mem.set, hr]), (by exact hG)⟩ <;> try simp (disch := first | omega | decide) only [go_sem, f1, f2, f7, f13, f14, f15, o7]
    all_goals first | rfl | (rw [th_yes hk hb]; simp; done)
   case hf =>
    intro hb
    try simp only [bo1, bo2, bo3, bo4, bo5, bo6] at hb
    have hbt21 := hb
    refine AW.skip ?_
    refine AW.region (cfg := cfg) ?_
    iterate 2 (apply aops_step (by decide) rfl; · (intro K hK; simp (disch := first | omega | decide) only [go_sem, f1, f2, f7, f13, f14, f15, o7]; exact hK _))
    refine aops_nil ?_
    refine ⟨_, _, rfl, ?_, ?_, ?_, ?_, ?_, ?_, ?_, (by intro i; simp [Mem.set, hr]), (by exact hG)⟩ <;> try simp (disch := first | omega | decide) only [go_sem, f1, f2, f7, f13, f14, f15, o7]
    all_goals first | rfl | (rw [th_no hk hb]; done)
  ·clear f0 f1 f2 hr hG
   rintro σ ⟨s, m, rfl, f1, f2, f7, o7, f13, f14, f15, hr, hG⟩
   obtain ⟨g7, o7⟩ : ∃ g, m.objs (.var 7) = (g, .arr (thL p t (l.take l.length)).isEmpty 1 ((thL p t (l.take l.length)).map i64)) := ⟨_, Prod.ext rfl o7⟩
   rw [o7] at f7
   refine AW.sr (cfg := cfg) ?_
   iterate 1 (apply aops_step (by decide) rfl; · (intro K hK; simp (disch := first | omega | decide) only [go_sem, f1, f2, f7, f13, f14, f15, o7]; exact hK _))
   refine aops_nil ?_
   refine AW.seq ?_
   apply AW.cond
   ·(simp only [go_sem, f1, f2, f7, f13, f14, f15, o7]; rfl)
   case ht => intro hb; (simp at hb; done)
   case hf =>
   intro hb
   have hbt16 := hb
   refine AW.exit ?_
   refine AW.sr (cfg := cfg) ?_
   iterate 1 (apply aops_step (by decide) rfl; · (intro K hK; simp (disch := first | omega | decide) only [go_sem, f1, f2, f7, f13, f14, f15, o7]; exact hK _))
   apply aops_step (by decide) rfl
   ·intro K hK
    simp (disch := first | omega | decide) only [go_sem, f1, f2, f7, f13, f14, f15, o7]
    rw [asg_fz (by rfl) (by decide) (by simp (disch := first | omega | decide) only [go_sem, f1, f2, f7, f13, f14, f15, o7] <;> rfl)]
    exact hK _
   refine aops_nil ?_
   refine AW.ret ?_
   refine ⟨.inr rfl, ?_⟩
   apply Exists.intro
   (have zz : thR p t l = thL p t (l.take l.length) := by rw [thR, tab_0 (by assumption), List.take_length]; rfl)
   rw [zz]
   refine leavesN ?_
   refine leaves_mwp2 (rs := [.tmp 6]) rfl ?_; simp (config := {failIfUnchanged := false}) [giveL, srcOne, rehome, freezeN, sub, upd, opn, aLoad, loadL, giveOne, reify, reifyL, readL, readOne, Mwp, M.bind, Mem.set, setAt, cellsL, hG, f1, f2, f7, f13, f14, f15, o7]
   exact ⟨List.take_of_length_le (by simp), rfl⟩

def hdT (x : Nr) : Pr := ⟨x.of, x.bo⟩
def lkT (x : Nr) : Pr := ⟨x.of, x.co⟩
abbrev heP (x : Nr) : Bool := x.he
abbrev fuP (x : Nr) : Bool := x.fu
abbrev ofP (x : Nr) : Int := x.of
instance : Inhabited Nr := ⟨⟨0, 0, 0, 0, false, false, 0, false⟩⟩
def lastN (ls : List Nr) (k : Nat) : Int := if k = 0 then 0 else (ls.getD ((k : Int) - 1).toNat default).of
theorem lastN_succ {ls : List Nr} {k : Nat} (h : k < ls.length) : lastN ls (k + 1) = ls[k].of := by
  rw [lastN, if_neg (by omega), show (((k + 1 : Nat) : Int) - 1).toNat = k by omega, List.getD_eq_getElem?_getD, List.getElem?_eq_getElem h]; rfl
theorem getD_at {α : Type} [Inhabited α] {ls : List α} {k : Nat} (hk : k < ls.length) : ls.getD k default = ls[k] := by
  rw [List.getD_eq_getElem?_getD, List.getElem?_eq_getElem hk]; rfl
theorem rN_go {ls : List Nr} {k : Nat} (h : chN 0 ls = chN (lastN ls k) (ls.drop k)) (hk : k < ls.length) (h2 : bad ls[k] = false ∧ (¬ (k : Int) > 0 ∨ ¬ (ls.getD ((k : Int) - 1).toNat default).of ≥ (ls.getD k default).of)) : chN 0 ls = chN ls[k].of (ls.drop (k + 1)) := by
  rw [getD_at hk] at h2
  have hb := bad_of h2.1
  rw [h, ch_drop hk, h2.1, decide_eq_true ?_]; rfl
  unfold lastN
  split
  · omega
  · rcases h2.2 with h6 | h6 <;> omega
theorem rN_no {ls : List Nr} {k : Nat} (h : chN 0 ls = chN (lastN ls k) (ls.drop k)) (hk : k < ls.length) (h2 : bad ls[k] = true ∨ ((k : Int) > 0 ∧ (ls.getD ((k : Int) - 1).toNat default).of ≥ (ls.getD k default).of)) : tabOK ls = false := by
  rw [getD_at hk] at h2
  rw [tabOK, h, ch_drop hk]
  rcases h2 with h2 | ⟨h2, h3⟩
  · rw [h2]; rfl
  · rw [decide_eq_false ?_]
    · simp
    · rw [lastN, if_neg (by omega)]; omega
theorem rN_end {ls : List Nr} (h : chN 0 ls = chN (lastN ls ls.length) (ls.drop ls.length)) : decide ((ls.length : Int) ≤ 16) = tabOK ls := by
  rw [tabOK, h, ch_end, Bool.true_and]
theorem ch_all : ∀ {ls : List Nr} {last : Int}, chN last ls = true → ∀ x ∈ ls, bad x = false
  | y :: r, last, h, x, hx => by
    simp only [chN, Bool.and_eq_true] at h
    rcases List.mem_cons.1 hx with rfl | hx
    · simpa using h.1.1
    · exact ch_all h.2 x hx
theorem fu_le {ls : List Nr} (h : tabOK ls = true) : (thL fuP lkT ls).length ≤ (thL heP hdT ls).length := by
  simp only [tabOK, Bool.and_eq_true] at h
  have hb := ch_all h.1
  clear h
  simp only [thL, List.length_map]
  induction ls with
  | nil => exact Nat.le_refl _
  | cons x t ih =>
    have i := ih fun y hy => hb y (List.mem_cons_of_mem _ hy)
    have hx := hb x (List.mem_cons_self ..)
    simp only [List.filter_cons]
    cases hf : fuP x with
    | false => cases heP x <;> simp <;> omega
    | true =>
      have : heP x = true := by
        have hf2 : x.fu = true := hf
        cases he : x.he with
        | true => exact he
        | false => simp [bad, he, hf2] at hx
      rw [this]; simp; omega
theorem of_map (ls : List Nr) : thL fuP ofP ls = (thL fuP lkT ls).map (·.a) := by
  simp only [thL, List.map_map]; rfl
theorem thR_no {α : Type} {p : Nr → Bool} {t : Nr → α} {l : List Nr} (h : tabOK l = false) : thR p t l = [] := by rw [thR, h]; rfl
theorem thR_yes {α : Type} {p : Nr → Bool} {t : Nr → α} {l : List Nr} (h : tabOK l = true) : thR p t l = thL p t l := by rw [thR, h]; rfl
theorem tab_way (l : List Nr) : tabOK l = false ∨ tabOK l = true := by cases tabOK l <;> simp
set_option maxHeartbeats 4000000 in
set_option maxRecDepth 100000 in
theorem good_HeardT (nil : Bool) (l : List Nr) (hl : l.length ≤ 1000000) : Good Try.prog 7 [(.sl 8 nil (l.map nrA), false)] [] [(.sl 2 (thR heP hdT l).isEmpty ((thR heP hdT l).map prA), false)] [] := by
 refine good_of_body4 5 Try.func7 rfl rfl rfl (by simp) (by simp) (by simp [noPtrL, noPtr]) (by simp [noPtrL, noPtr]) ?_
 intro s m ha hr hv hG
 have f0 : s 0 = .v (.sl 8 nil (l.map nrA)) := ha 0 _ rfl
 clear ha
 refine AW.sr (cfg := cfg) ?_
 iterate 1 (apply aops_step (by decide) rfl; · (intro K hK; simp (disch := first | omega | decide) only [go_sem, f0, sz24]; exact hK _))
 refine aops_nil ?_
 refine AW.sr (cfg := cfg) ?_
 iterate 1 (apply aops_step (by decide) rfl; · (intro K hK; simp (disch := first | omega | decide) only [go_sem, f0]; exact hK _))
 apply aops_step (by decide) rfl
 ·intro K hK
  simp (disch := first | omega | decide) only [go_sem, f0, act_call, List.map]
  apply mwp_call_r rfl rfl rfl
  ·intro Q hQ
   (simp (disch := first | omega | decide) only [go_sem, f0, peekL, reifyL_nil, reifyL_cons, reify_v]; (exact hQ))
  ·exact good_thoseH nil l (by omega) 26 27 heP hdT rfl rfl rfl rfl good_heardF good_heardT
  ·simp [-List.map_take, -List.map_drop, -List.map_append, -List.map_replicate, -List.reduceReplicate, noPtrL, noPtr, noPtrL_bsl, noPtrL_map, sub]
  ·simp (disch := first | omega | decide) only [go_sem, f0]
   exact hK _
 iterate 1 (apply aops_step (by decide) rfl; · (intro K hK; simp (disch := first | omega | decide) only [go_sem, f0]; exact hK _))
 refine aops_nil ?_
 refine AW.ret ?_
 refine ⟨.inr rfl, ?_⟩
 apply Exists.intro
 refine leaves_mwp2 (rs := [.tmp 2]) rfl ?_
 simp (config := {failIfUnchanged := false}) [giveL, srcOne, rehome, freezeN, sub, upd, opn, aLoad, loadL, giveOne, reify, reifyL, readL, readOne, Mwp, M.bind, Mem.set, setAt, cellsL, hG, f0]
 all_goals exact rfl

set_option maxHeartbeats 4000000 in
set_option maxRecDepth 100000 in
theorem good_LinksT (nil : Bool) (l : List Nr) (hl : l.length ≤ 1000000) : Good Try.prog 9 [(.sl 8 nil (l.map nrA), false)] [] [(.sl 2 (thR fuP lkT l).isEmpty ((thR fuP lkT l).map prA), false)] [] := by
 refine good_of_body4 5 Try.func9 rfl rfl rfl (by simp) (by simp) (by simp [noPtrL, noPtr]) (by simp [noPtrL, noPtr]) ?_
 intro s m ha hr hv hG
 have f0 : s 0 = .v (.sl 8 nil (l.map nrA)) := ha 0 _ rfl
 clear ha
 refine AW.sr (cfg := cfg) ?_
 iterate 1 (apply aops_step (by decide) rfl; · (intro K hK; simp (disch := first | omega | decide) only [go_sem, f0, sz28]; exact hK _))
 refine aops_nil ?_
 refine AW.sr (cfg := cfg) ?_
 iterate 1 (apply aops_step (by decide) rfl; · (intro K hK; simp (disch := first | omega | decide) only [go_sem, f0]; exact hK _))
 apply aops_step (by decide) rfl
 ·intro K hK
  simp (disch := first | omega | decide) only [go_sem, f0, act_call, List.map]
  apply mwp_call_r rfl rfl rfl
  ·intro Q hQ
   (simp (disch := first | omega | decide) only [go_sem, f0, peekL, reifyL_nil, reifyL_cons, reify_v]; (exact hQ))
  ·exact good_thoseL nil l (by omega) 29 32 fuP lkT rfl rfl rfl rfl good_fullF good_linkT
  ·simp [-List.map_take, -List.map_drop, -List.map_append, -List.map_replicate, -List.reduceReplicate, noPtrL, noPtr, noPtrL_bsl, noPtrL_map, sub]
  ·simp (disch := first | omega | decide) only [go_sem, f0]
   exact hK _
 iterate 1 (apply aops_step (by decide) rfl; · (intro K hK; simp (disch := first | omega | decide) only [go_sem, f0]; exact hK _))
 refine aops_nil ?_
 refine AW.ret ?_
 refine ⟨.inr rfl, ?_⟩
 apply Exists.intro
 refine leaves_mwp2 (rs := [.tmp 2]) rfl ?_
 simp (config := {failIfUnchanged := false}) [giveL, srcOne, rehome, freezeN, sub, upd, opn, aLoad, loadL, giveOne, reify, reifyL, readL, readOne, Mwp, M.bind, Mem.set, setAt, cellsL, hG, f0]
 all_goals exact rfl

set_option maxHeartbeats 4000000 in
set_option maxRecDepth 100000 in
theorem good_FullT (nil : Bool) (l : List Nr) (hl : l.length ≤ 1000000) : Good Try.prog 8 [(.sl 8 nil (l.map nrA), false)] [] [(.sl 1 (thR fuP ofP l).isEmpty ((thR fuP ofP l).map i64), false)] [] := by
 refine good_of_body4 5 Try.func8 rfl rfl rfl (by simp) (by simp) (by simp [noPtrL, noPtr]) (by simp [noPtrL, noPtr]) ?_
 intro s m ha hr hv hG
 have f0 : s 0 = .v (.sl 8 nil (l.map nrA)) := ha 0 _ rfl
 clear ha
 refine AW.sr (cfg := cfg) ?_
 iterate 1 (apply aops_step (by decide) rfl; · (intro K hK; simp (disch := first | omega | decide) only [go_sem, f0, sz26]; exact hK _))
 refine aops_nil ?_
 refine AW.sr (cfg := cfg) ?_
 iterate 1 (apply aops_step (by decide) rfl; · (intro K hK; simp (disch := first | omega | decide) only [go_sem, f0]; exact hK _))
 apply aops_step (by decide) rfl
 ·intro K hK
  simp (disch := first | omega | decide) only [go_sem, f0, act_call, List.map]
  apply mwp_call_r rfl rfl rfl
  ·intro Q hQ
   (simp (disch := first | omega | decide) only [go_sem, f0, peekL, reifyL_nil, reifyL_cons, reify_v]; (exact hQ))
  ·exact good_thoseI nil l (by omega) 29 30 fuP ofP rfl rfl rfl rfl good_fullF good_ofF
  ·simp [-List.map_take, -List.map_drop, -List.map_append, -List.map_replicate, -List.reduceReplicate, noPtrL, noPtr, noPtrL_bsl, noPtrL_map, sub]
  ·simp (disch := first | omega | decide) only [go_sem, f0]
   exact hK _
 iterate 1 (apply aops_step (by decide) rfl; · (intro K hK; simp (disch := first | omega | decide) only [go_sem, f0]; exact hK _))
 refine aops_nil ?_
 refine AW.ret ?_
 refine ⟨.inr rfl, ?_⟩
 apply Exists.intro
 refine leaves_mwp2 (rs := [.tmp 2]) rfl ?_
 simp (config := {failIfUnchanged := false}) [giveL, srcOne, rehome, freezeN, sub, upd, opn, aLoad, loadL, giveOne, reify, reifyL, readL, readOne, Mwp, M.bind, Mem.set, setAt, cellsL, hG, f0]
 all_goals exact rfl

set_option maxHeartbeats 4000000 in
set_option maxRecDepth 100000 in
theorem good_mayT (nil : Bool) (l : List Nr) (hl : l.length ≤ 9223372036854775807) : Good Try.prog 10 [(.sl 8 nil (l.map nrA), false)] [] [(.b (tabOK l), false)] [] := by
 refine good_of_body2 37 Try.func10 rfl rfl rfl (by simp) ?_
 intro s m ha hr hv hG
 have f0 : s 0 = .v (.sl 8 nil (l.map nrA)) := ha 0 _ rfl
 clear ha
 refine AW.sr (cfg := cfg) ?_
 iterate 1 (apply aops_step (by decide) rfl; · (intro K hK; simp (disch := first | omega | decide) only [go_sem, f0, Bool.not_not]; exact hK _))
 refine aops_nil ?_
 refine AW.seq ?_
 refine AW.sr (cfg := cfg) ?_
 iterate 1 (apply aops_step (by decide) rfl; · (intro K hK; simp (disch := first | omega | decide) only [go_sem, f0, Bool.not_not]; exact hK _))
 refine aops_nil ?_
 refine AW.block ?_
 refine AW.forN (fun k σ => ∃ s m, σ = ⟨37, s, m⟩ ∧ s 0 = .v (.sl 8 nil (l.map nrA)) ∧ s 3 = .v (i64 (k : Int)) ∧ (chN 0 l = chN (lastN l k) (l.drop k)) ∧ (∀ i, (m.objs (.res i)).2 = .dead) ∧ m.G = []) (l.length) ?_ ?_ ?_
 ·refine ⟨_, _, rfl, ?_, ?_, ?_, (by intro i; simp [Mem.set, hr]), (by exact hG)⟩ <;> try simp (disch := first | omega | decide) only [go_sem, f0, Bool.not_not]
  all_goals rfl
 ·clear f0 hr hG
  rintro k σ hk ⟨s, m, rfl, f0, f3, mo0, hr, hG⟩
  refine AW.seq ?_
  refine AW.sr (cfg := cfg) ?_
  iterate 4 (apply aops_step (by decide) rfl; · (intro K hK; simp (disch := first | omega | decide) only [go_sem, f0, f3, List.map, List.length_map, aops_len u22, Bool.not_not]; exact hK _))
  refine aops_nil ?_
  apply AW.cond
  ·(simp only [go_sem, f0, f3, Bool.not_not]; rfl)
  case hf => intro hb; (simp at hb; omega)
  case ht =>
  intro hb
  have hbt7 := hb
  refine AW.skip ?_
  refine AW.seq ?_
  refine AW.block ?_
  refine AW.seq ?_
  refine AW.draw (cfg := cfg) (by kernel_rfl) (by kernel_rfl) (by kernel_rfl) ?_
  iterate 2 (apply adraw_step rfl; · (intro K hK; simp (disch := first | omega | decide) only [go_sem, f0, f3, Bool.not_not]; exact hK))
  apply adraw_step rfl
  ·intro K hK
   simp (disch := first | omega | decide) only [go_sem, f0, f3, act_indexAddr_s u22 ti36, List.map, Bool.not_not]
   skip
   exact hK
  apply adraw_step rfl
  ·intro K hK
   simp (disch := first | omega | decide) only [go_sem, f0, f3, act_load_t ti36, List.map, Bool.not_not]
   rw [mwp_load_is (by simp)]
   exact hK
  apply adraw_step rfl
  ·intro K hK
   simp (disch := first | omega | decide) only [go_sem, f0, f3, act_call, List.map, Bool.not_not]
   apply mwp_call_s rfl rfl rfl
   ·intro Q hQ
    (simp (disch := first | omega | decide) only [go_sem, f0, f3, peekL, reifyL_nil, reifyL_cons, reify_v, Bool.not_not]; (exact hQ))
   ·exact good_mayN _
   ·simp [-List.map_take, -List.map_drop, -List.map_append, -List.map_replicate, -List.reduceReplicate, noPtrL, noPtr, noPtrL_bsl, noPtrL_map, sub]
   ·rfl
   ·exact hK
  iterate 2 (apply adraw_step rfl; · (intro K hK; simp (disch := first | omega | decide) only [go_sem, f0, f3, Bool.not_not]; exact hK))
  apply adraw_merge' (by exact want_of (d := 16) rfl (by simp only [go_sem, f0, f3, opn_cond, Bool.not_not]; rfl))
  ·intro hc K hK
   simp (disch := first | omega | decide) only [go_sem, f0, f3, opn_cond, hc, if_true, Bool.not_not]
   exact hK
  apply adraw_merge' (by exact want_of (d := 16) rfl (by simp only [go_sem, f0, f3, opn_cond, Bool.not_not]; rfl))
  ·intro hc K hK
   simp (disch := first | omega | decide) only [go_sem, f0, f3, opn_cond, hc, if_true, Bool.not_not]
   exact hK
  apply adraw_merge' (by exact want_of (d := 16) rfl (by simp only [go_sem, f0, f3, opn_cond, Bool.not_not]; rfl))
  ·intro hc K hK
   simp (disch := first | omega | decide) only [go_sem, f0, f3, opn_cond, hc, if_true, Bool.not_not]
   exact hK
  apply adraw_merge' (by exact want_of_cond (d := 19) rfl (by simp only [go_sem, f0, f3, opn_cond, Bool.not_not]; rfl))
  ·intro hc K hK
   simp (disch := first | omega | decide) only [go_sem, f0, f3, opn_cond, hc, if_true, Bool.not_not]
   exact hK
  apply adraw_merge' (by exact want_of_cond (d := 19) rfl (by simp only [go_sem, f0, f3, opn_cond, Bool.not_not]; rfl))
  ·intro hc K hK
   simp (disch := first | omega | decide) only [go_sem, f0, f3, opn_cond, hc, if_true, Bool.not_not]
   exact hK
  apply adraw_merge' (by exact want_of_cond (d := 19) rfl (by simp only [go_sem, f0, f3, opn_cond, Bool.not_not]; rfl))
  ·intro hc K hK
   have hc2 := hc
   simp only [beq_iff_eq, decide_eq_true_eq, decide_eq_false_iff_not, Bool.or_eq_true, Bool.and_eq_true, Bool.or_eq_false_iff, Bool.and_eq_false_iff] at hc2
   simp (disch := first | omega | decide) only [go_sem, f0, f3, opn_cond, hc, if_true, Bool.not_not]
   exact hK
  apply adraw_merge' (by exact want_of_cond (d := 19) rfl (by simp only [go_sem, f0, f3, opn_cond, Bool.not_not]; rfl))
  ·intro hc K hK
   have hc2 := hc
   simp only [beq_iff_eq, decide_eq_true_eq, decide_eq_false_iff_not, Bool.or_eq_true, Bool.and_eq_true, Bool.or_eq_false_iff, Bool.and_eq_false_iff] at hc2
   simp (disch := first | omega | decide) only [opn_cond, hc, if_true, raw_tmp, raw_int, upd_same, upd_ne, opn_v, intOf_v, idxL_some, f0, f3, act_indexAddr_s u22 ti36]
   rw [mwp_aIndex_getD (by omega) (by omega)]
   exact hK
  apply adraw_merge' (by exact want_of_cond (d := 19) rfl (by simp only [go_sem, f0, f3, opn_cond, Bool.not_not]; rfl))
  ·intro hc K hK
   simp (disch := first | omega | decide) only [go_sem, f0, f3, opn_cond, hc, if_true, act_fieldAddr_t fo36_0, Bool.not_not]
   skip
   exact hK
  apply adraw_merge' (by exact want_of_cond (d := 19) rfl (by simp only [go_sem, f0, f3, opn_cond, Bool.not_not]; rfl))
  ·intro hc K hK
   simp (disch := first | omega | decide) only [go_sem, f0, f3, opn_cond, hc, if_true, act_load_t ti3, Bool.not_not]
   rw [mwp_load_i1 (by rfl)]
   exact hK
  apply adraw_merge' (by exact want_of_cond (d := 19) rfl (by simp only [go_sem, f0, f3, opn_cond, Bool.not_not]; rfl))
  ·intro hc K hK
   simp (disch := first | omega | decide) only [go_sem, f0, f3, opn_cond, hc, if_true, Bool.not_not]
   exact hK
  apply adraw_merge' (by exact want_of_cond (d := 19) rfl (by simp only [go_sem, f0, f3, opn_cond, Bool.not_not]; rfl))
  ·intro hc K hK
   simp (disch := first | omega | decide) only [go_sem, f0, f3, opn_cond, hc, if_true, Bool.not_not]
   exact hK
  apply adraw_merge' (by exact want_of_cond (d := 19) rfl (by simp only [go_sem, f0, f3, opn_cond, Bool.not_not]; rfl))
  ·intro hc K hK
   have hc2 := hc
   simp only [beq_iff_eq, decide_eq_true_eq, decide_eq_false_iff_not, Bool.or_eq_true, Bool.and_eq_true, Bool.or_eq_false_iff, Bool.and_eq_false_iff] at hc2
   simp (disch := first | omega | decide) only [opn_cond, hc, if_true, raw_tmp, raw_int, upd_same, upd_ne, opn_v, intOf_v, idxL_some, f0, f3, act_indexAddr_s u22 ti36]
   rw [mwp_aIndex_getD (by omega) (by omega)]
   exact hK
  apply adraw_merge' (by exact want_of_cond (d := 19) rfl (by simp only [go_sem, f0, f3, opn_cond, Bool.not_not]; rfl))
  ·intro hc K hK
   simp (disch := first | omega | decide) only [go_sem, f0, f3, opn_cond, hc, if_true, act_fieldAddr_t fo36_0, Bool.not_not]
   skip
   exact hK
  apply adraw_merge' (by exact want_of_cond (d := 19) rfl (by simp only [go_sem, f0, f3, opn_cond, Bool.not_not]; rfl))
  ·intro hc K hK
   simp (disch := first | omega | decide) only [go_sem, f0, f3, opn_cond, hc, if_true, act_load_t ti3, Bool.not_not]
   rw [mwp_load_i1 (by rfl)]
   exact hK
  apply adraw_merge' (by exact want_of_cond (d := 19) rfl (by simp only [go_sem, f0, f3, opn_cond, Bool.not_not]; rfl))
  ·intro hc K hK
   simp (disch := first | omega | decide) only [go_sem, f0, f3, opn_cond, hc, if_true, Bool.not_not]
   exact hK
  apply adraw_merge' (by exact want_of (d := 16) rfl (by simp only [go_sem, f0, f3, opn_cond, Bool.not_not]; rfl))
  ·intro hc K hK
   simp (disch := first | omega | decide) only [go_sem, f0, f3, opn_cond, hc, if_true, Bool.not_not]
   exact hK
  iterate 1 (apply adraw_step rfl; · (intro K hK; simp (disch := first | omega | decide) only [go_sem, f0, f3, Bool.not_not]; exact hK))
  refine adraw_nil (by kernel_rfl) ?_
  apply AW.cond
  ·(simp only [go_sem, f0, f3, Bool.not_not]; rfl)
  case ht =>
   intro hb
   try simp only [bo1, bo2, bo3, bo4, bo5, bo6] at hb
   have hbt33 := hb
   refine AW.sr (cfg := cfg) ?_
   iterate 1 (apply aops_step (by decide) rfl; · (intro K hK; simp (disch := first | omega | decide) only [go_sem, f0, f3, Bool.not_not]; exact hK _))
   refine aops_nil ?_
   refine AW.ret ?_
   refine ⟨.inr rfl, ?_⟩
   refine leaves_tmp1 2 rfl ?_ (by exact hG)
   simp (disch := first | omega | decide) only [go_sem, f0, f3, Bool.not_not]
   all_goals (rw [rN_no mo0 hk hb]; done)
  case hf =>
   intro hb
   try simp only [bo1, bo2, bo3, bo4, bo5, bo6] at hb
   have hbt33 := hb
   refine AW.skip ?_
   refine AW.region (cfg := cfg) ?_
   iterate 3 (apply aops_step (by decide) rfl; · (intro K hK; simp (disch := first | omega | decide) only [go_sem, f0, f3, Bool.not_not]; exact hK _))
   refine aops_nil ?_
   refine ⟨_, _, rfl, ?_, ?_, ?_, (by intro i; simp [Mem.set, hr]), (by exact hG)⟩ <;> try simp (disch := first | omega | decide) only [go_sem, f0, f3, Bool.not_not]
   all_goals first | rfl | (rw [lastN_succ hk]; exact rN_go mo0 hk hb)
 ·clear f0 hr hG
  rintro σ ⟨s, m, rfl, f0, f3, mo0, hr, hG⟩
  refine AW.seq ?_
  refine AW.sr (cfg := cfg) ?_
  iterate 4 (apply aops_step (by decide) rfl; · (intro K hK; simp (disch := first | omega | decide) only [go_sem, f0, f3, List.map, List.length_map, aops_len u22, Bool.not_not]; exact hK _))
  refine aops_nil ?_
  apply AW.cond
  ·(simp only [go_sem, f0, f3, Bool.not_not]; rfl)
  case ht => intro hb; (simp at hb; done)
  case hf =>
  intro hb
  have hbt7 := hb
  refine AW.exit ?_
  refine AW.sr (cfg := cfg) ?_
  iterate 4 (apply aops_step (by decide) rfl; · (intro K hK; simp (disch := first | omega | decide) only [go_sem, f0, f3, List.map, List.length_map, aops_len u22, Bool.not_not]; exact hK _))
  refine aops_nil ?_
  refine AW.ret ?_
  refine ⟨.inr rfl, ?_⟩
  refine leaves_tmp1 2 rfl ?_ (by exact hG)
  simp (disch := first | omega | decide) only [go_sem, f0, f3, Bool.not_not]
  all_goals (rw [rN_end mo0]; done)

set_option maxHeartbeats 4000000 in
set_option maxRecDepth 100000 in
theorem good_refHeardT (nil : Bool) (l : List Nr) (hl : l.length ≤ 1000000) : Good Try.prog 11 [(.sl 8 nil (l.map nrA), false)] [] [(.sl 2 false ((thL heP hdT l).map prA), false)] [] := by
 refine good_of_body5 32 Try.func11 rfl rfl rfl (by simp) (by simp) (by simp [noPtrL, noPtr]) (by simp [noPtrL, noPtr]) ?_
 intro s m ha hr hv hG
 have f0 : s 0 = .v (.sl 8 nil (l.map nrA)) := ha 0 _ rfl
 clear ha
 refine AW.sr (cfg := cfg) ?_
 iterate 1 (apply aops_step (by decide) rfl; · (intro K hK; simp (disch := first | omega | decide) only [go_sem, f0, sz24]; exact hK _))
 refine aops_nil ?_
 refine AW.sr (cfg := cfg) ?_
 apply aops_step (by decide) rfl
 ·intro K hK
  rw [act_bs el24 ti32]
  (simp [-List.map_take, -List.map_drop, -BitVec.toNat_ofInt, -BitVec.ofInt_natCast, -BitVec.toNat_setWidth, -BitVec.toNat_ushiftRight, -BitVec.toNat_umod, -BitVec.toNat_udiv, go_sem, elems_v, cellishAV, Value.oneCell', isAggAV, partsOf, TI.z, TI.mk1, f0]; exact hK _)
 apply aops_step (by decide) rfl
 ·intro K hK
  simp (disch := first | omega | decide) only [go_sem, f0]
  rw [asg_tmp (by simp (disch := first | omega | decide) only [go_sem, f0]; rfl)]
  exact hK _
 refine aops_nil ?_
 refine AW.seq ?_
 refine AW.sr (cfg := cfg) ?_
 iterate 1 (apply aops_step (by decide) rfl; · (intro K hK; simp (disch := first | omega | decide) only [go_sem, f0]; exact hK _))
 refine aops_nil ?_
 refine AW.block ?_
 refine AW.forN (fun k σ => ∃ s m, σ = ⟨32, s, m⟩ ∧ s 0 = .v (.sl 8 nil (l.map nrA)) ∧ s 3 = .own (.var 3) (m.objs (.var 3)).1 0 ((thL heP hdT (l.take k)).length) ∧ (m.objs (.var 3)).2 = .arr false 2 ((thL heP hdT (l.take k)).map prA) ∧ s 4 = .v (i64 (k : Int)) ∧ (∀ i, (m.objs (.res i)).2 = .dead) ∧ m.G = []) (l.length) ?_ ?_ ?_
 ·refine ⟨_, _, rfl, ?_, ?_, ?_, ?_, (by intro i; simp [Mem.set, hr]), (by exact hG)⟩ <;> try simp (disch := first | omega | decide) only [go_sem, f0]
  all_goals rfl
 ·clear f0 hr hG
  rintro k σ hk ⟨s, m, rfl, f0, f3, o3, f4, hr, hG⟩
  obtain ⟨g3, o3⟩ : ∃ g, m.objs (.var 3) = (g, .arr false 2 ((thL heP hdT (l.take k)).map prA)) := ⟨_, Prod.ext rfl o3⟩
  rw [o3] at f3
  refine AW.seq ?_
  refine AW.sr (cfg := cfg) ?_
  iterate 4 (apply aops_step (by decide) rfl; · (intro K hK; simp (disch := first | omega | decide) only [go_sem, f0, f3, f4, o3, List.map, List.length_map, aops_len u22]; exact hK _))
  refine aops_nil ?_
  apply AW.cond
  ·(simp only [go_sem, f0, f3, f4, o3]; rfl)
  case hf => intro hb; (simp at hb; omega)
  case ht =>
  intro hb
  have hbt9 := hb
  refine AW.skip ?_
  refine AW.seq ?_
  refine AW.block ?_
  refine AW.seq ?_
  have wb := th_le heP hdT l k
  refine AW.region (cfg := cfg) ?_
  iterate 2 (apply aops_step (by decide) rfl; · (intro K hK; simp (disch := first | omega | decide) only [go_sem, f0, f3, f4, o3]; exact hK _))
  apply aops_step (by decide) rfl
  ·intro K hK
   simp (disch := first | omega | decide) only [go_sem, f0, f3, f4, o3, act_indexAddr_s u22 ti36, List.map]
   skip
   exact hK _
  apply aops_step (by decide) rfl
  ·intro K hK
   simp (disch := first | omega | decide) only [go_sem, f0, f3, f4, o3, act_fieldAddr_t fo36_4, List.map]
   skip
   exact hK _
  apply aops_step (by decide) rfl
  ·intro K hK
   simp (disch := first | omega | decide) only [go_sem, f0, f3, f4, o3, act_load_t ti4, List.map]
   rw [mwp_load_i1 (by rfl)]
   exact hK _
  refine aops_nil ?_
  apply AW.cond
  ·(simp only [go_sem, f0, f3, f4, o3]; rfl)
  case ht =>
   intro hb
   try simp only [bo1, bo2, bo3, bo4, bo5, bo6] at hb
   have hbt16 := hb
   refine AW.draw (cfg := cfg) (by kernel_rfl) (by kernel_rfl) (by kernel_rfl) ?_
   iterate 3 (apply adraw_step rfl; · (intro K hK; simp (disch := first | omega | decide) only [go_sem, f0, f3, f4, o3]; exact hK))
   apply adraw_step rfl
   ·intro K hK
    simp (disch := first | omega | decide) only [go_sem, f0, f3, f4, o3, act_indexAddr_s u22 ti36, List.map]
    skip
    exact hK
   apply adraw_step rfl
   ·intro K hK
    simp (disch := first | omega | decide) only [go_sem, f0, f3, f4, o3, act_fieldAddr_t fo36_0, List.map]
    skip
    exact hK
   apply adraw_step rfl
   ·intro K hK
    simp (disch := first | omega | decide) only [go_sem, f0, f3, f4, o3, act_load_t ti3, List.map]
    rw [mwp_load_i1 (by rfl)]
    exact hK
   iterate 2 (apply adraw_step rfl; · (intro K hK; simp (disch := first | omega | decide) only [go_sem, f0, f3, f4, o3]; exact hK))
   apply adraw_step rfl
   ·intro K hK
    simp (disch := first | omega | decide) only [go_sem, f0, f3, f4, o3, act_indexAddr_s u22 ti36, List.map]
    skip
    exact hK
   apply adraw_step rfl
   ·intro K hK
    simp (disch := first | omega | decide) only [go_sem, f0, f3, f4, o3, act_fieldAddr_t fo36_2, List.map]
    skip
    exact hK
   apply adraw_step rfl
   ·intro K hK
    simp (disch := first | omega | decide) only [go_sem, f0, f3, f4, o3, act_load_t ti3, List.map]
    rw [mwp_load_i1 (by rfl)]
    exact hK
   apply adraw_step rfl
   ·intro K hK
    simp (disch := first | omega | decide) only [go_sem, f0, f3, f4, o3, act_build_t ti32 pl32, List.map]
    simp [-List.map_take, -List.map_drop, fillL, okOne, cellishAV, Value.oneCell', cellsL, cellsOf, setAt, M.bind, Mwp, mset_same, Obj.isArr, o3]
    exact hK
   apply adraw_step rfl
   ·intro K hK
    rw [act_bs el24 ti32]
    (simp [-List.map_take, -List.map_drop, -BitVec.toNat_ofInt, -BitVec.ofInt_natCast, -BitVec.toNat_setWidth, -BitVec.toNat_ushiftRight, -BitVec.toNat_umod, -BitVec.toNat_udiv, go_sem, elems_v, cellishAV, Value.oneCell', isAggAV, partsOf, TI.z, TI.mk1, f0, f3, f4, o3]; exact hK)
   apply adraw_step rfl
   ·intro K hK
    simp (disch := first | omega | decide) only [go_sem, f0, f3, f4, o3, List.map]
    apply mwp_append2 el24 ti32 u24
    case hpk => intro Q hQ; (rw [peek_own (by simp (disch := first | omega | decide) only [go_sem, f0, f3, f4, o3]; rfl)]; (try rw [sub_full (by rfl)]); exact hQ)
    case hs' => rfl
    case ho => simp (disch := first | omega | decide) only [go_sem, f0, f3, f4, o3]; rfl
    case hsz => rfl
    case hhi => (simp; done)
    case hb => (simp [sub, roomB]; omega)
    case hy => exact all_cells rfl
    case k => (try simp only [List.nil_append, ← List.map_append, Bool.false_and]); exact hK
   apply adraw_step rfl
   ·intro K hK
    simp (disch := first | omega | decide) only [go_sem, f0, f3, f4, o3]
    rw [asg_tmp (by simp (disch := first | omega | decide) only [go_sem, f0, f3, f4, o3]; rfl)]
    exact hK
   refine adraw_nil (by kernel_rfl) ?_
   refine AW.region (cfg := cfg) ?_
   iterate 3 (apply aops_step (by decide) rfl; · (intro K hK; simp (disch := first | omega | decide) only [go_sem, f0, f3, f4, o3]; exact hK _))
   refine aops_nil ?_
   refine ⟨_, _, rfl, ?_, ?_, ?_, ?_, (by intro i; simp [Mem.set, hr]), (by exact hG)⟩ <;> try simp (disch := first | omega | decide) only [go_sem, f0, f3, f4, o3]
   all_goals first | rfl | (rw [th_yes hk hb]; simp [prA, hdT]; done)
  case hf =>
   intro hb
   try simp only [bo1, bo2, bo3, bo4, bo5, bo6] at hb
   have hbt16 := hb
   refine AW.skip ?_
   refine AW.region (cfg := cfg) ?_
   iterate 3 (apply aops_step (by decide) rfl; · (intro K hK; simp (disch := first | omega | decide) only [go_sem, f0, f3, f4, o3]; exact hK _))
   refine aops_nil ?_
   refine ⟨_, _, rfl, ?_, ?_, ?_, ?_, (by intro i; simp [Mem.set, hr]), (by exact hG)⟩ <;> try simp (disch := first | omega | decide) only [go_sem, f0, f3, f4, o3]
   all_goals first | rfl | (rw [th_no hk (by simpa using hb)]; done)
 ·clear f0 hr hG
  rintro σ ⟨s, m, rfl, f0, f3, o3, f4, hr, hG⟩
  obtain ⟨g3, o3⟩ : ∃ g, m.objs (.var 3) = (g, .arr false 2 ((thL heP hdT (l.take l.length)).map prA)) := ⟨_, Prod.ext rfl o3⟩
  rw [o3] at f3
  refine AW.seq ?_
  refine AW.sr (cfg := cfg) ?_
  iterate 4 (apply aops_step (by decide) rfl; · (intro K hK; simp (disch := first | omega | decide) only [go_sem, f0, f3, f4, o3, List.map, List.length_map, aops_len u22]; exact hK _))
  refine aops_nil ?_
  apply AW.cond
  ·(simp only [go_sem, f0, f3, f4, o3]; rfl)
  case ht => intro hb; (simp at hb; done)
  case hf =>
  intro hb
  have hbt9 := hb
  refine AW.exit ?_
  refine AW.sr (cfg := cfg) ?_
  iterate 1 (apply aops_step (by decide) rfl; · (intro K hK; simp (disch := first | omega | decide) only [go_sem, f0, f3, f4, o3]; exact hK _))
  apply aops_step (by decide) rfl
  ·intro K hK
   simp (disch := first | omega | decide) only [go_sem, f0, f3, f4, o3]
   rw [asg_fz (by rfl) (by decide) (by simp (disch := first | omega | decide) only [go_sem, f0, f3, f4, o3] <;> rfl)]
   exact hK _
  refine aops_nil ?_
  refine AW.ret ?_
  refine ⟨.inr rfl, ?_⟩
  apply Exists.intro
  rw [← List.take_length (l := l)]
  refine leavesN ?_
  refine leaves_mwp2 (rs := [.tmp 2]) rfl ?_; simp (config := {failIfUnchanged := false}) [giveL, srcOne, rehome, freezeN, sub, upd, opn, aLoad, loadL, giveOne, reify, reifyL, readL, readOne, Mwp, M.bind, Mem.set, setAt, cellsL, hG, f0, f3, f4, o3]
  exact ⟨List.take_of_length_le (by simp), rfl⟩

set_option maxHeartbeats 4000000 in
set_option maxRecDepth 100000 in
theorem good_refLinksT (nil : Bool) (l : List Nr) (hl : l.length ≤ 1000000) : Good Try.prog 12 [(.sl 8 nil (l.map nrA), false)] [] [(.sl 2 false ((thL fuP lkT l).map prA), false)] [] := by
 refine good_of_body5 32 Try.func12 rfl rfl rfl (by simp) (by simp) (by simp [noPtrL, noPtr]) (by simp [noPtrL, noPtr]) ?_
 intro s m ha hr hv hG
 have f0 : s 0 = .v (.sl 8 nil (l.map nrA)) := ha 0 _ rfl
 clear ha
 refine AW.sr (cfg := cfg) ?_
 iterate 1 (apply aops_step (by decide) rfl; · (intro K hK; simp (disch := first | omega | decide) only [go_sem, f0, sz28]; exact hK _))
 refine aops_nil ?_
 refine AW.sr (cfg := cfg) ?_
 apply aops_step (by decide) rfl
 ·intro K hK
  rw [act_bs el28 ti34]
  (simp [-List.map_take, -List.map_drop, -BitVec.toNat_ofInt, -BitVec.ofInt_natCast, -BitVec.toNat_setWidth, -BitVec.toNat_ushiftRight, -BitVec.toNat_umod, -BitVec.toNat_udiv, go_sem, elems_v, cellishAV, Value.oneCell', isAggAV, partsOf, TI.z, TI.mk1, f0]; exact hK _)
 apply aops_step (by decide) rfl
 ·intro K hK
  simp (disch := first | omega | decide) only [go_sem, f0]
  rw [asg_tmp (by simp (disch := first | omega | decide) only [go_sem, f0]; rfl)]
  exact hK _
 refine aops_nil ?_
 refine AW.seq ?_
 refine AW.sr (cfg := cfg) ?_
 iterate 1 (apply aops_step (by decide) rfl; · (intro K hK; simp (disch := first | omega | decide) only [go_sem, f0]; exact hK _))
 refine aops_nil ?_
 refine AW.block ?_
 refine AW.forN (fun k σ => ∃ s m, σ = ⟨32, s, m⟩ ∧ s 0 = .v (.sl 8 nil (l.map nrA)) ∧ s 3 = .own (.var 3) (m.objs (.var 3)).1 0 ((thL fuP lkT (l.take k)).length) ∧ (m.objs (.var 3)).2 = .arr false 2 ((thL fuP lkT (l.take k)).map prA) ∧ s 4 = .v (i64 (k : Int)) ∧ (∀ i, (m.objs (.res i)).2 = .dead) ∧ m.G = []) (l.length) ?_ ?_ ?_
 ·refine ⟨_, _, rfl, ?_, ?_, ?_, ?_, (by intro i; simp [Mem.set, hr]), (by exact hG)⟩ <;> try simp (disch := first | omega | decide) only [go_sem, f0]
  all_goals rfl
 ·clear f0 hr hG
  rintro k σ hk ⟨s, m, rfl, f0, f3, o3, f4, hr, hG⟩
  obtain ⟨g3, o3⟩ : ∃ g, m.objs (.var 3) = (g, .arr false 2 ((thL fuP lkT (l.take k)).map prA)) := ⟨_, Prod.ext rfl o3⟩
  rw [o3] at f3
  refine AW.seq ?_
  refine AW.sr (cfg := cfg) ?_
  iterate 4 (apply aops_step (by decide) rfl; · (intro K hK; simp (disch := first | omega | decide) only [go_sem, f0, f3, f4, o3, List.map, List.length_map, aops_len u22]; exact hK _))
  refine aops_nil ?_
  apply AW.cond
  ·(simp only [go_sem, f0, f3, f4, o3]; rfl)
  case hf => intro hb; (simp at hb; omega)
  case ht =>
  intro hb
  have hbt9 := hb
  refine AW.skip ?_
  refine AW.seq ?_
  refine AW.block ?_
  refine AW.seq ?_
  have wb := th_le fuP lkT l k
  refine AW.region (cfg := cfg) ?_
  iterate 2 (apply aops_step (by decide) rfl; · (intro K hK; simp (disch := first | omega | decide) only [go_sem, f0, f3, f4, o3]; exact hK _))
  apply aops_step (by decide) rfl
  ·intro K hK
   simp (disch := first | omega | decide) only [go_sem, f0, f3, f4, o3, act_indexAddr_s u22 ti36, List.map]
   skip
   exact hK _
  apply aops_step (by decide) rfl
  ·intro K hK
   simp (disch := first | omega | decide) only [go_sem, f0, f3, f4, o3, act_fieldAddr_t fo36_5, List.map]
   skip
   exact hK _
  apply aops_step (by decide) rfl
  ·intro K hK
   simp (disch := first | omega | decide) only [go_sem, f0, f3, f4, o3, act_load_t ti4, List.map]
   rw [mwp_load_i1 (by rfl)]
   exact hK _
  refine aops_nil ?_
  apply AW.cond
  ·(simp only [go_sem, f0, f3, f4, o3]; rfl)
  case ht =>
   intro hb
   try simp only [bo1, bo2, bo3, bo4, bo5, bo6] at hb
   have hbt16 := hb
   refine AW.draw (cfg := cfg) (by kernel_rfl) (by kernel_rfl) (by kernel_rfl) ?_
   iterate 3 (apply adraw_step rfl; · (intro K hK; simp (disch := first | omega | decide) only [go_sem, f0, f3, f4, o3]; exact hK))
   apply adraw_step rfl
   ·intro K hK
    simp (disch := first | omega | decide) only [go_sem, f0, f3, f4, o3, act_indexAddr_s u22 ti36, List.map]
    skip
    exact hK
   apply adraw_step rfl
   ·intro K hK
    simp (disch := first | omega | decide) only [go_sem, f0, f3, f4, o3, act_fieldAddr_t fo36_0, List.map]
    skip
    exact hK
   apply adraw_step rfl
   ·intro K hK
    simp (disch := first | omega | decide) only [go_sem, f0, f3, f4, o3, act_load_t ti3, List.map]
    rw [mwp_load_i1 (by rfl)]
    exact hK
   iterate 2 (apply adraw_step rfl; · (intro K hK; simp (disch := first | omega | decide) only [go_sem, f0, f3, f4, o3]; exact hK))
   apply adraw_step rfl
   ·intro K hK
    simp (disch := first | omega | decide) only [go_sem, f0, f3, f4, o3, act_indexAddr_s u22 ti36, List.map]
    skip
    exact hK
   apply adraw_step rfl
   ·intro K hK
    simp (disch := first | omega | decide) only [go_sem, f0, f3, f4, o3, act_fieldAddr_t fo36_1, List.map]
    skip
    exact hK
   apply adraw_step rfl
   ·intro K hK
    simp (disch := first | omega | decide) only [go_sem, f0, f3, f4, o3, act_load_t ti3, List.map]
    rw [mwp_load_i1 (by rfl)]
    exact hK
   apply adraw_step rfl
   ·intro K hK
    simp (disch := first | omega | decide) only [go_sem, f0, f3, f4, o3, act_build_t ti34 pl34, List.map]
    simp [-List.map_take, -List.map_drop, fillL, okOne, cellishAV, Value.oneCell', cellsL, cellsOf, setAt, M.bind, Mwp, mset_same, Obj.isArr, o3]
    exact hK
   apply adraw_step rfl
   ·intro K hK
    rw [act_bs el28 ti34]
    (simp [-List.map_take, -List.map_drop, -BitVec.toNat_ofInt, -BitVec.ofInt_natCast, -BitVec.toNat_setWidth, -BitVec.toNat_ushiftRight, -BitVec.toNat_umod, -BitVec.toNat_udiv, go_sem, elems_v, cellishAV, Value.oneCell', isAggAV, partsOf, TI.z, TI.mk1, f0, f3, f4, o3]; exact hK)
   apply adraw_step rfl
   ·intro K hK
    simp (disch := first | omega | decide) only [go_sem, f0, f3, f4, o3, List.map]
    apply mwp_append2 el28 ti34 u28
    case hpk => intro Q hQ; (rw [peek_own (by simp (disch := first | omega | decide) only [go_sem, f0, f3, f4, o3]; rfl)]; (try rw [sub_full (by rfl)]); exact hQ)
    case hs' => rfl
    case ho => simp (disch := first | omega | decide) only [go_sem, f0, f3, f4, o3]; rfl
    case hsz => rfl
    case hhi => (simp; done)
    case hb => (simp [sub, roomB]; omega)
    case hy => exact all_cells rfl
    case k => (try simp only [List.nil_append, ← List.map_append, Bool.false_and]); exact hK
   apply adraw_step rfl
   ·intro K hK
    simp (disch := first | omega | decide) only [go_sem, f0, f3, f4, o3]
    rw [asg_tmp (by simp (disch := first | omega | decide) only [go_sem, f0, f3, f4, o3]; rfl)]
    exact hK
   refine adraw_nil (by kernel_rfl) ?_
   refine AW.region (cfg := cfg) ?_
   iterate 3 (apply aops_step (by decide) rfl; · (intro K hK; simp (disch := first | omega | decide) only [go_sem, f0, f3, f4, o3]; exact hK _))
   refine aops_nil ?_
   refine ⟨_, _, rfl, ?_, ?_, ?_, ?_, (by intro i; simp [Mem.set, hr]), (by exact hG)⟩ <;> try simp (disch := first | omega | decide) only [go_sem, f0, f3, f4, o3]
   all_goals first | rfl | (rw [th_yes hk hb]; simp [prA, lkT]; done)
  case hf =>
   intro hb
   try simp only [bo1, bo2, bo3, bo4, bo5, bo6] at hb
   have hbt16 := hb
   refine AW.skip ?_
   refine AW.region (cfg := cfg) ?_
   iterate 3 (apply aops_step (by decide) rfl; · (intro K hK; simp (disch := first | omega | decide) only [go_sem, f0, f3, f4, o3]; exact hK _))
   refine aops_nil ?_
   refine ⟨_, _, rfl, ?_, ?_, ?_, ?_, (by intro i; simp [Mem.set, hr]), (by exact hG)⟩ <;> try simp (disch := first | omega | decide) only [go_sem, f0, f3, f4, o3]
   all_goals first | rfl | (rw [th_no hk (by simpa using hb)]; done)
 ·clear f0 hr hG
  rintro σ ⟨s, m, rfl, f0, f3, o3, f4, hr, hG⟩
  obtain ⟨g3, o3⟩ : ∃ g, m.objs (.var 3) = (g, .arr false 2 ((thL fuP lkT (l.take l.length)).map prA)) := ⟨_, Prod.ext rfl o3⟩
  rw [o3] at f3
  refine AW.seq ?_
  refine AW.sr (cfg := cfg) ?_
  iterate 4 (apply aops_step (by decide) rfl; · (intro K hK; simp (disch := first | omega | decide) only [go_sem, f0, f3, f4, o3, List.map, List.length_map, aops_len u22]; exact hK _))
  refine aops_nil ?_
  apply AW.cond
  ·(simp only [go_sem, f0, f3, f4, o3]; rfl)
  case ht => intro hb; (simp at hb; done)
  case hf =>
  intro hb
  have hbt9 := hb
  refine AW.exit ?_
  refine AW.sr (cfg := cfg) ?_
  iterate 1 (apply aops_step (by decide) rfl; · (intro K hK; simp (disch := first | omega | decide) only [go_sem, f0, f3, f4, o3]; exact hK _))
  apply aops_step (by decide) rfl
  ·intro K hK
   simp (disch := first | omega | decide) only [go_sem, f0, f3, f4, o3]
   rw [asg_fz (by rfl) (by decide) (by simp (disch := first | omega | decide) only [go_sem, f0, f3, f4, o3] <;> rfl)]
   exact hK _
  refine aops_nil ?_
  refine AW.ret ?_
  refine ⟨.inr rfl, ?_⟩
  apply Exists.intro
  rw [← List.take_length (l := l)]
  refine leavesN ?_
  refine leaves_mwp2 (rs := [.tmp 2]) rfl ?_; simp (config := {failIfUnchanged := false}) [giveL, srcOne, rehome, freezeN, sub, upd, opn, aLoad, loadL, giveOne, reify, reifyL, readL, readOne, Mwp, M.bind, Mem.set, setAt, cellsL, hG, f0, f3, f4, o3]
  exact ⟨List.take_of_length_le (by simp), rfl⟩

end Go.Vai.T
