import Derived.Test.YtpmgmlbpbnefeaahTab
namespace Go.Vai.T
open Go.Proofs Go.Vai
set_option linter.unusedSimpArgs false
set_option linter.unusedVariables false

def chN : Int → List Nr → Bool
  | _, [] => true
  | last, x :: r => (!bad x && decide (last < x.of)) && chN x.of r
def tabOK (l : List Nr) : Bool := chN 0 l && decide ((l.length : Int) ≤ 16)
def tabE (l : List Nr) : Int := if tabOK l then 0 else 1
theorem ch_drop {last : Int} {ls : List Nr} {k : Nat} (h : k < ls.length) : chN last (ls.drop k) = ((!bad ls[k] && decide (last < ls[k].of)) && chN ls[k].of (ls.drop (k + 1))) := by
  rw [List.drop_eq_getElem_cons h]; rfl
theorem ch_end {last : Int} {ls : List Nr} : chN last (ls.drop ls.length) = true := by simp [chN]
theorem ch_no {ls : List Nr} {last : Int} {k : Nat} (h : chN 0 ls = chN last (ls.drop k)) (hk : k < ls.length) (h2 : chk ls[k] ≠ 0 ∨ ls[k].of ≤ last) : tabE ls = 1 := by
  have e : (!bad ls[k] && decide (last < ls[k].of)) = false := by
    rcases h2 with h2 | h2
    · rw [chk_1 h2]; rfl
    · rw [decide_eq_false (by omega), Bool.and_false]
  rw [tabE, tabOK, h, ch_drop hk, e]; simp
theorem ch_go {ls : List Nr} {last : Int} {k : Nat} (h : chN 0 ls = chN last (ls.drop k)) (hk : k < ls.length) (h2 : ¬ chk ls[k] ≠ 0 ∧ ¬ ls[k].of ≤ last) : chN 0 ls = chN ls[k].of (ls.drop (k + 1)) := by
  rw [h, ch_drop hk, chk_0 (Decidable.not_not.1 h2.1), decide_eq_true (by omega)]; rfl
theorem tab_big {ls : List Nr} (h : (ls.length : Int) > 16) : tabE ls = 1 := by
  rw [tabE, tabOK, decide_eq_false (by omega), Bool.and_false]; rfl
theorem tab_ok {ls : List Nr} {last : Int} (h : chN 0 ls = chN last (ls.drop ls.length)) (h2 : ¬ (ls.length : Int) > 16) : tabE ls = 0 := by
  rw [tabE, tabOK, h, ch_end, decide_eq_true (by omega)]; rfl
theorem tab_0 {ls : List Nr} (h : ¬ tabE ls ≠ 0) : tabOK ls = true := by
  cases e : tabOK ls with
  | true => rfl
  | false => rw [tabE, e] at h; simp at h
theorem tab_1 {ls : List Nr} (h : tabE ls ≠ 0) : tabOK ls = false := by
  cases e : tabOK ls with
  | false => rfl
  | true => rw [tabE, e] at h; simp at h
set_option maxHeartbeats 4000000 in
set_option maxRecDepth 100000 in
theorem good_CheckT (nil : Bool) (l : List Nr) (hl : l.length ≤ 9223372036854775807) : Good Try.prog 15 [(.sl 8 nil (l.map nrA), false)] [] [(i64 (tabE l), false)] [] := by
 refine good_of_body2 27 Try.func15 rfl rfl rfl (by simp) ?_
 intro s m ha hr hv hG
 have f0 : s 0 = .v (.sl 8 nil (l.map nrA)) := ha 0 _ rfl
 clear ha
 refine AW.sr (cfg := cfg) ?_
 iterate 1 (apply aops_step (by decide) rfl; · (intro K hK; simp (disch := first | omega | decide) only [go_sem, f0]; exact hK _))
 refine aops_nil ?_
 refine AW.sr (cfg := cfg) ?_
 iterate 1 (apply aops_step (by decide) rfl; · (intro K hK; simp (disch := first | omega | decide) only [go_sem, f0]; exact hK _))
 refine aops_nil ?_
 refine AW.seq ?_
 refine AW.sr (cfg := cfg) ?_
 iterate 3 (apply aops_step (by decide) rfl; · (intro K hK; simp (disch := first | omega | decide) only [go_sem, f0, List.map, List.length_map, aops_len u22]; exact hK _))
 refine aops_nil ?_
 refine AW.block ?_
 refine AW.forN (fun k σ => ∃ s m last, σ = ⟨27, s, m⟩ ∧ s 0 = .v (.sl 8 nil (l.map nrA)) ∧ s 3 = .v (i64 last) ∧ s 6 = .v (.sl 8 nil (l.map nrA)) ∧ s 7 = .v (i64 (l.length : Int)) ∧ s 8 = .v (i64 (k : Int)) ∧ (chN 0 l = chN last (l.drop k)) ∧ (∀ i, (m.objs (.res i)).2 = .dead) ∧ m.G = []) (l.length) ?_ ?_ ?_
 ·refine ⟨_, _, 0, rfl, ?_, ?_, ?_, ?_, ?_, ?_, (by intro i; simp [Mem.set, hr]), (by exact hG)⟩ <;> try simp (disch := first | omega | decide) only [go_sem, f0]
  all_goals rfl
 ·clear f0 hr hG
  rintro k σ hk ⟨s, m, last, rfl, f0, f3, f6, f7, f8, mo0, hr, hG⟩
  refine AW.sr (cfg := cfg) ?_
  iterate 1 (apply aops_step (by decide) rfl; · (intro K hK; simp (disch := first | omega | decide) only [go_sem, f0, f3, f6, f7, f8]; exact hK _))
  refine aops_nil ?_
  refine AW.seq ?_
  apply AW.cond
  ·(simp only [go_sem, f0, f3, f6, f7, f8]; rfl)
  case hf => intro hb; (simp at hb; omega)
  case ht =>
  intro hb
  have hbt9 := hb
  refine AW.skip ?_
  refine AW.seq ?_
  refine AW.block ?_
  refine AW.sr (cfg := cfg) ?_
  apply aops_step (by decide) rfl
  ·intro K hK
   simp (disch := first | omega | decide) only [go_sem, f0, f3, f6, f7, f8, act_indexAddr_s u22 ti36, List.map]
   skip
   exact hK _
  apply aops_step (by decide) rfl
  ·intro K hK
   simp (disch := first | omega | decide) only [go_sem, f0, f3, f6, f7, f8, act_load_t ti36, List.map]
   rw [mwp_load_is (by simp)]
   exact hK _
  apply aops_step (by decide) rfl
  ·intro K hK
   simp (disch := first | omega | decide) only [go_sem, f0, f3, f6, f7, f8, act_alloc_t ti36, List.map]
   exact hK _
  apply aops_step0 rfl
  ·intro K hK
   simp (disch := first | omega | decide) only [go_sem, f0, f3, f6, f7, f8, act_store_t ti36, List.map]
   rw [mwp_store_c (by simp (disch := first | omega | decide) only [go_sem, f0, f3, f6, f7, f8]; rfl) (by rfl) (by rfl) (by rfl) (by simp)]
   try simp only [setAt, cellsL, cellsOf_agg, cellsOf_base, List.map_cons, List.map_nil, List.set_cons_zero, List.set_cons_succ, Nat.reduceAdd, Nat.zero_add, hG]
   exact hK _
  refine aops_nil ?_
  refine AW.seq ?_
  refine AW.sr (cfg := cfg) ?_
  apply aops_step (by decide) rfl
  ·intro K hK
   simp (disch := first | omega | decide) only [go_sem, f0, f3, f6, f7, f8, act_load_t ti36, List.map]
   rw [mwp_load_bs (by simp (disch := first | omega | decide) only [go_sem, f0, f3, f6, f7, f8]; rfl) (by simp [setAt])]
   exact hK _
  apply aops_step (by decide) rfl
  ·intro K hK
   simp (disch := first | omega | decide) only [go_sem, f0, f3, f6, f7, f8, act_call, List.map]
   apply mwp_call_s rfl rfl rfl
   ·intro Q hQ
    (simp (disch := first | omega | decide) only [go_sem, f0, f3, f6, f7, f8, peekL, reifyL_nil, reifyL_cons, reify_v]; (exact hQ))
   ·exact good_chkN _
   ·simp [-List.map_take, -List.map_drop, -List.map_append, -List.map_replicate, -List.reduceReplicate, noPtrL, noPtr, noPtrL_bsl, noPtrL_map, sub]
   ·rfl
   ·exact hK _
  iterate 2 (apply aops_step (by decide) rfl; · (intro K hK; simp (disch := first | omega | decide) only [go_sem, f0, f3, f6, f7, f8]; exact hK _))
  refine aops_flm (dg := 15) (by decide) (by decide) (by decide) fo36_0 ti3 rfl (by simp only [go_sem, f0, f3, f6, f7, f8]; rfl) (by simp only [go_sem, f0, f3, f6, f7, f8]; rfl) (by simp only [go_sem, f0, f3, f6, f7, f8]; rfl) (by rfl) ?_
  apply aops_merge' (by decide) (by exact want_of (d := 15) rfl (by simp only [go_sem, f0, f3, f6, f7, f8, opn_cond]; rfl))
  ·intro hc K hK
   simp (disch := first | omega | decide) only [go_sem, f0, f3, f6, f7, f8, opn_cond, hc, if_true]
   exact hK _
  apply aops_merge' (by decide) (by exact want_of (d := 15) rfl (by simp only [go_sem, f0, f3, f6, f7, f8, opn_cond]; rfl))
  ·intro hc K hK
   simp (disch := first | omega | decide) only [go_sem, f0, f3, f6, f7, f8, opn_cond, hc, if_true]
   exact hK _
  iterate 1 (apply aops_step (by decide) rfl; · (intro K hK; simp (disch := first | omega | decide) only [go_sem, f0, f3, f6, f7, f8]; exact hK _))
  refine aops_nil ?_
  apply AW.cond
  ·(simp only [go_sem, f0, f3, f6, f7, f8]; rfl)
  case ht =>
   intro hb
   try simp only [bo1, bo2, bo3, bo4, bo5, bo6] at hb
   have hbt20 := hb
   refine AW.sr (cfg := cfg) ?_
   iterate 1 (apply aops_step (by decide) rfl; · (intro K hK; simp (disch := first | omega | decide) only [go_sem, f0, f3, f6, f7, f8]; exact hK _))
   refine aops_nil ?_
   refine AW.ret ?_
   refine ⟨.inr rfl, ?_⟩
   refine leaves_tmp1 2 rfl ?_ (by exact hG)
   simp (disch := first | omega | decide) only [go_sem, f0, f3, f6, f7, f8]
   all_goals (rw [ch_no mo0 hk hb]; done)
  case hf =>
   intro hb
   try simp only [bo1, bo2, bo3, bo4, bo5, bo6] at hb
   have hbt20 := hb
   refine AW.skip ?_
   refine AW.region (cfg := cfg) ?_
   refine aops_fl (by decide) (by decide) fo36_0 ti3 (by simp only [go_sem, f0, f3, f6, f7, f8]; rfl) (by simp only [go_sem, f0, f3, f6, f7, f8]; rfl) (by rfl) ?_
   iterate 1 (apply aops_step (by decide) rfl; · (intro K hK; simp (disch := first | omega | decide) only [go_sem, f0, f3, f6, f7, f8]; exact hK _))
   refine aops_nil ?_
   refine AW.region (cfg := cfg) ?_
   iterate 2 (apply aops_step (by decide) rfl; · (intro K hK; simp (disch := first | omega | decide) only [go_sem, f0, f3, f6, f7, f8]; exact hK _))
   refine aops_nil ?_
   refine ⟨_, _, l[k].of, rfl, ?_, ?_, ?_, ?_, ?_, ?_, (by intro i; simp [Mem.set, hr]), (by exact hG)⟩ <;> try simp (disch := first | omega | decide) only [go_sem, f0, f3, f6, f7, f8]
   all_goals first | rfl | exact ch_go mo0 hk hb
 ·clear f0 hr hG
  rintro σ ⟨s, m, last, rfl, f0, f3, f6, f7, f8, mo0, hr, hG⟩
  refine AW.sr (cfg := cfg) ?_
  iterate 1 (apply aops_step (by decide) rfl; · (intro K hK; simp (disch := first | omega | decide) only [go_sem, f0, f3, f6, f7, f8]; exact hK _))
  refine aops_nil ?_
  refine AW.seq ?_
  apply AW.cond
  ·(simp only [go_sem, f0, f3, f6, f7, f8]; rfl)
  case ht => intro hb; (simp at hb; done)
  case hf =>
  intro hb
  have hbt9 := hb
  refine AW.exit ?_
  refine AW.seq ?_
  refine AW.sr (cfg := cfg) ?_
  iterate 3 (apply aops_step (by decide) rfl; · (intro K hK; simp (disch := first | omega | decide) only [go_sem, f0, f3, f6, f7, f8, List.map, List.length_map, aops_len u22]; exact hK _))
  refine aops_nil ?_
  apply AW.cond
  ·(simp only [go_sem, f0, f3, f6, f7, f8]; rfl)
  case ht =>
   intro hb
   try simp only [bo1, bo2, bo3, bo4, bo5, bo6] at hb
   have hbt26 := hb
   refine AW.sr (cfg := cfg) ?_
   iterate 1 (apply aops_step (by decide) rfl; · (intro K hK; simp (disch := first | omega | decide) only [go_sem, f0, f3, f6, f7, f8]; exact hK _))
   refine aops_nil ?_
   refine AW.ret ?_
   refine ⟨.inr rfl, ?_⟩
   refine leaves_tmp1 2 rfl ?_ (by exact hG)
   simp (disch := first | omega | decide) only [go_sem, f0, f3, f6, f7, f8]
   all_goals (rw [tab_big hb]; done)
  case hf =>
   intro hb
   try simp only [bo1, bo2, bo3, bo4, bo5, bo6] at hb
   have hbt26 := hb
   refine AW.skip ?_
   refine AW.sr (cfg := cfg) ?_
   iterate 1 (apply aops_step (by decide) rfl; · (intro K hK; simp (disch := first | omega | decide) only [go_sem, f0, f3, f6, f7, f8]; exact hK _))
   refine aops_nil ?_
   refine AW.ret ?_
   refine ⟨.inr rfl, ?_⟩
   refine leaves_tmp1 2 rfl ?_ (by exact hG)
   simp (disch := first | omega | decide) only [go_sem, f0, f3, f6, f7, f8]
   all_goals (rw [tab_ok mo0 hb]; done)

set_option maxHeartbeats 4000000 in
set_option maxRecDepth 100000 in
theorem good_BSnil (nil : Bool) (a : Int) (f : FuncId) : Good Try.prog 47 [(.sl 8 nil [], false), (i64 a, false), (.clo f [], false)] [] [(i64 0, false), (.b false, false)] [] := by
 refine good_of_body2 49 Try.func47 rfl rfl rfl (by simp) ?_
 intro s m ha hr hv hG
 have f0 : s 0 = .v (.sl 8 nil []) := ha 0 _ rfl
 have f1 : s 1 = .v (i64 a) := ha 1 _ rfl
 have f2 : s 2 = .v (.clo f []) := ha 2 _ rfl
 clear ha
 refine AW.sr (cfg := cfg) ?_
 iterate 2 (apply aops_step (by decide) rfl; · (intro K hK; simp (disch := first | omega | decide) only [go_sem, f0, f1, f2, pick_f]; exact hK _))
 refine aops_nil ?_
 refine AW.sr (cfg := cfg) ?_
 iterate 3 (apply aops_step (by decide) rfl; · (intro K hK; simp (disch := first | omega | decide) only [go_sem, f0, f1, f2, List.map, List.length_map, aops_len u22, pick_f]; exact hK _))
 refine aops_nil ?_
 refine AW.sr (cfg := cfg) ?_
 iterate 3 (apply aops_step (by decide) rfl; · (intro K hK; simp (disch := first | omega | decide) only [go_sem, f0, f1, f2, pick_f]; exact hK _))
 refine aops_nil ?_
 refine AW.seq ?_
 refine AW.block ?_
 refine AW.forN (fun k σ => ∃ s m, σ = ⟨49, s, m⟩ ∧ s 0 = .v (.sl 8 nil []) ∧ s 1 = .v (i64 a) ∧ s 2 = .v (.clo f []) ∧ s 8 = .v (i64 0) ∧ s 9 = .v (i64 0) ∧ s 10 = .v (i64 0) ∧ (∀ i, (m.objs (.res i)).2 = .dead) ∧ m.G = []) (0) ?_ ?_ ?_
 ·refine ⟨_, _, rfl, ?_, ?_, ?_, ?_, ?_, ?_, (by intro i; simp [Mem.set, hr]), (by exact hG)⟩ <;> try simp (disch := first | omega | decide) only [go_sem, f0, f1, f2, pick_f]
  all_goals rfl
 ·clear f0 f1 f2 hr hG
  rintro k σ hk ⟨s, m, rfl, f0, f1, f2, f8, f9, f10, hr, hG⟩
  exact absurd hk (Nat.not_lt_zero _)
 ·clear f0 f1 f2 hr hG
  rintro σ ⟨s, m, rfl, f0, f1, f2, f8, f9, f10, hr, hG⟩
  refine AW.seq ?_
  refine AW.sr (cfg := cfg) ?_
  iterate 3 (apply aops_step (by decide) rfl; · (intro K hK; simp (disch := first | omega | decide) only [go_sem, f0, f1, f2, f8, f9, f10, pick_f]; exact hK _))
  refine aops_nil ?_
  apply AW.cond
  ·(simp only [go_sem, f0, f1, f2, f8, f9, f10, pick_f]; rfl)
  case ht => intro hb; (simp at hb; done)
  case hf =>
  intro hb
  have hbt17 := hb
  refine AW.exit ?_
  refine AW.sr (cfg := cfg) ?_
  iterate 5 (apply aops_step (by decide) rfl; · (intro K hK; simp (disch := first | omega | decide) only [go_sem, f0, f1, f2, f8, f9, f10, pick_f]; exact hK _))
  apply aops_skip' (by decide) rfl
  apply aops_skip' (by decide) rfl
  apply aops_skip' (by decide) rfl
  apply aops_skip' (by decide) rfl
  apply aops_skip' (by decide) rfl
  apply aops_skip' (by decide) rfl
  apply aops_skip' (by decide) rfl
  apply aops_skip' (by decide) rfl
  iterate 3 (apply aops_step (by decide) rfl; · (intro K hK; simp (disch := first | omega | decide) only [go_sem, f0, f1, f2, f8, f9, f10, pick_f]; exact hK _))
  refine aops_nil ?_
  refine AW.ret ?_
  refine ⟨.inr rfl, ?_⟩
  refine leaves_mwp2 (rs := [.tmp 6, .tmp 7]) rfl ?_
  simp (config := {failIfUnchanged := false}) [giveL, srcOne, rehome, freezeN, sub, upd, opn, aLoad, loadL, giveOne, reify, reifyL, readL, readOne, Mwp, M.bind, Mem.set, setAt, cellsL, hG, f0, f1, f2, f8, f9, f10, pick_f, opn_v]
  all_goals first | done | exact ⟨⟨rfl, rfl⟩, rfl⟩ | exact ⟨rfl, rfl⟩ | trace_state

set_option maxHeartbeats 4000000 in
set_option maxRecDepth 100000 in
theorem good_findNil (nil : Bool) (a : Int) : Good Try.prog 33 [(.sl 8 nil [], false), (i64 a, false)] [] [(i64 0, false), (.b false, false)] [] := by
 refine good_of_body2 11 Try.func33 rfl rfl rfl (by simp) ?_
 intro s m ha hr hv hG
 have f0 : s 0 = .v (.sl 8 nil []) := ha 0 _ rfl
 have f1 : s 1 = .v (i64 a) := ha 1 _ rfl
 clear ha
 refine AW.sr (cfg := cfg) ?_
 iterate 2 (apply aops_step (by decide) rfl; · (intro K hK; simp (disch := first | omega | decide) only [go_sem, f0, f1]; exact hK _))
 refine aops_nil ?_
 refine AW.sr (cfg := cfg) ?_
 iterate 2 (apply aops_step (by decide) rfl; · (intro K hK; simp (disch := first | omega | decide) only [go_sem, f0, f1]; exact hK _))
 apply aops_step (by decide) rfl
 ·intro K hK
  simp (disch := first | omega | decide) only [go_sem, f0, f1, act_call, List.map]
  apply mwp_call_r rfl rfl rfl
  ·intro Q hQ
   (simp (disch := first | omega | decide) only [go_sem, f0, f1, peekL, reifyL_nil, reifyL_cons, reify_v]; (exact hQ))
  ·exact good_BSnil nil a 48
  ·simp [-List.map_take, -List.map_drop, -List.map_append, -List.map_replicate, -List.reduceReplicate, noPtrL, noPtr, noPtrL_bsl, noPtrL_map, sub]
  ·simp (disch := first | omega | decide) only [go_sem, f0, f1]
   exact hK _
 iterate 4 (apply aops_step (by decide) rfl; · (intro K hK; simp (disch := first | omega | decide) only [go_sem, f0, f1]; exact hK _))
 refine aops_nil ?_
 refine AW.ret ?_
 refine ⟨.inr rfl, ?_⟩
 refine leaves_mwp2 (rs := [.tmp 4, .tmp 5]) rfl ?_
 simp (config := {failIfUnchanged := false}) [giveL, srcOne, rehome, freezeN, sub, upd, opn, aLoad, loadL, giveOne, reify, reifyL, readL, readOne, Mwp, M.bind, Mem.set, setAt, cellsL, hG, f0, f1]
 all_goals first | done | trace_state

set_option maxHeartbeats 4000000 in
set_option maxRecDepth 100000 in
theorem good_CloneNil  : Good Try.prog 35 [(.sl 8 true [], false)] [] [(.sl 8 true [], true)] [] := by
 refine good_of_body3 8 Try.func35 rfl rfl rfl (by simp) ?_
 intro s m ha hr hv hG
 have f0 : s 0 = .v (.sl 8 true []) := ha 0 _ rfl
 clear ha
 refine AW.sr (cfg := cfg) ?_
 iterate 1 (apply aops_step (by decide) rfl; · (intro K hK; simp (disch := first | omega | decide) only [go_sem, f0, sz22]; exact hK _))
 refine aops_nil ?_
 refine AW.seq ?_
 refine AW.sr (cfg := cfg) ?_
 iterate 2 (apply aops_step (by decide) rfl; · (intro K hK; simp (disch := first | omega | decide) only [go_sem, f0, bin_eql_nil u22]; exact hK _))
 refine aops_nil ?_
 apply AW.cond
 ·(simp only [go_sem, f0]; rfl)
 case hf => intro hb; (simp at hb; done)
 case ht =>
 intro hb
 have hbt4 := hb
 refine AW.sr (cfg := cfg) ?_
 iterate 1 (apply aops_step (by decide) rfl; · (intro K hK; simp (disch := first | omega | decide) only [go_sem, f0, sz22]; exact hK _))
 refine aops_nil ?_
 refine AW.ret ?_
 refine ⟨.inr rfl, ?_⟩
 refine leavesN (leaves_own1 2 rfl (by simp (disch := first | omega | decide) only [go_sem, f0] <;> rfl) (by simp (disch := first | omega | decide) only [go_sem, f0] <;> rfl) (by decide) (by simp [sub]) (by exact hG))

end Go.Vai.T
