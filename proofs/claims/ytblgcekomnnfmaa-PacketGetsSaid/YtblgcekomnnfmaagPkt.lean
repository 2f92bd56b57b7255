import Derived.Test.YtblgcekomnnfmaagLsa5
import Derived.Test.YtblgcekomnnfmaaPktRf
import Derived.Test.YtblgcekomnnfmaagSeal2
import Derived.Test.YtblgcekomnnfmaaVaiD
namespace Go.Vai.P
open Go.Proofs Go.Vai Go.Vai.G Go.Vai.L Go.Vai.O Go.Vai.U Go.Vai.Z
set_option linter.unusedSimpArgs false
set_option linter.unusedVariables false
set_option maxHeartbeats 4000000
set_option maxRecDepth 100000
attribute [go_sem] cellsOf_lsa cellsOf_pkt
theorem good_withinK (n lo hi : Int) : Good Try.prog 60 [(i64 n, false), (i64 lo, false), (i64 hi, false)] [] [(.b (wi n lo hi), false)] [] := by
 refine good_of_body2 15 Try.func60 rfl rfl rfl (by simp) ?_
 intro s m ha hr hv hG
 have f0 : s 0 = .v (i64 n) := ha 0 _ rfl
 have f1 : s 1 = .v (i64 lo) := ha 1 _ rfl
 have f2 : s 2 = .v (i64 hi) := ha 2 _ rfl
 clear ha
 refine AW.sr (cfg := cfg) ?_
 iterate 1 (apply aops_step (by decide) rfl; · (intro K hK; simp (disch := first | omega | decide) only [go_sem, f0, f1, f2]; exact hK _))
 refine aops_nil ?_
 refine AW.sr (cfg := cfg) ?_
 iterate 4 (apply aops_step (by decide) rfl; · (intro K hK; simp (disch := first | omega | decide) only [go_sem, f0, f1, f2]; exact hK _))
 apply aops_merge' (by decide) (by exact want_of (d := 10) rfl (by simp only [go_sem, f0, f1, f2, opn_cond]; rfl))
 ·intro hc K hK
  simp (disch := first | omega | decide) only [go_sem, f0, f1, f2, opn_cond, hc, if_true]
  exact hK _
 apply aops_merge' (by decide) (by exact want_of (d := 10) rfl (by simp (disch := first | omega | decide) only [go_sem, f0, f1, f2, opn_cond]; rfl))
 ·intro hc K hK
  simp (disch := first | omega | decide) only [go_sem, f0, f1, f2, opn_cond, hc, if_true]
  exact hK _
 apply aops_merge' (by decide) (by exact want_of (d := 10) rfl (by simp (disch := first | omega | decide) only [go_sem, f0, f1, f2, opn_cond]; rfl))
 ·intro hc K hK
  simp (disch := first | omega | decide) only [go_sem, f0, f1, f2, opn_cond, hc, if_true]
  exact hK _
 iterate 2 (apply aops_step (by decide) rfl; · (intro K hK; simp (disch := first | omega | decide) only [go_sem, f0, f1, f2]; exact hK _))
 refine aops_nil ?_
 refine AW.ret ?_
 refine ⟨.inr rfl, ?_⟩
 refine leaves_tmp1 6 rfl ?_ (by exact hG)
 simp (disch := first | omega | decide) only [go_sem, f0, f1, f2]
 all_goals rfl
theorem pair_t {most last : Int} {x : LinkS} (h : (¬ x.to ≤ last ∧ ¬ x.to > 64) ∧ (!wi x.co 1 most) = false) : pairOK most last x = true := by
  have h2 : wi x.co 1 most = true := by simpa using h.2
  simp only [wi, Bool.and_eq_true, decide_eq_true_eq] at h2
  exact pair_is.2 (by omega)
theorem pair_f {most last : Int} {x : LinkS} (h : (x.to ≤ last ∨ x.to > 64) ∨ (!wi x.co 1 most) = true) : pairOK most last x = false := by
  refine pair_no fun f => ?_
  rcases h with h | h
  · omega
  · have : wi x.co 1 most = true := by simp only [wi, Bool.and_eq_true, decide_eq_true_eq]; omega
    rw [this] at h; cases h
theorem rpair_t {most : Int} {ls : List LinkS} {k : Nat} {x : LinkS} (h : (((¬ x.to < 1 ∧ ¬ x.to > 64) ∧ ¬ x.co < 1) ∧ ¬ x.co > most) ∧ (¬ (k : Int) > 0 ∨ ¬ (ls.getD ((k : Int) - 1).toNat default).to ≥ x.to)) : pairOK most (lastOf ls k) x = true := by
  refine pair_is.2 ⟨?_, by omega, by omega, by omega⟩
  unfold lastOf
  split
  · omega
  · rcases h.2 with h6 | h6 <;> omega
theorem rpair_f {most : Int} {ls : List LinkS} {k : Nat} {x : LinkS} (h0 : 0 ≤ lastOf ls k) (h : (((x.to < 1 ∨ x.to > 64) ∨ x.co < 1) ∨ x.co > most) ∨ ((k : Int) > 0 ∧ (ls.getD ((k : Int) - 1).toNat default).to ≥ x.to)) : pairOK most (lastOf ls k) x = false := by
  refine pair_no fun f => ?_
  rcases h with h | ⟨h, h'⟩
  · omega
  · have f1 := f.1
    rw [lastOf, if_neg (by omega)] at f1
    omega
theorem getD_at {α : Type} [Inhabited α] {ls : List α} {k : Nat} (hk : k < ls.length) : ls.getD k default = ls[k] := by
  rw [List.getD_eq_getElem?_getD, List.getElem?_eq_getElem hk]; rfl
theorem rpair_fg {most : Int} {ls : List LinkS} {k : Nat} (hk : k < ls.length) (h0 : 0 ≤ lastOf ls k) (h : (((ls[k].to < 1 ∨ (ls.getD k default).to > 64) ∨ (ls.getD k default).co < 1) ∨ (ls.getD k default).co > most) ∨ ((k : Int) > 0 ∧ (ls.getD ((k : Int) - 1).toNat default).to ≥ (ls.getD k default).to)) : pairOK most (lastOf ls k) ls[k] = false := by
  rw [getD_at hk] at h
  exact rpair_f h0 h
theorem rpair_tg {most : Int} {ls : List LinkS} {k : Nat} (hk : k < ls.length) (h : (((¬ ls[k].to < 1 ∧ ¬ (ls.getD k default).to > 64) ∧ ¬ (ls.getD k default).co < 1) ∧ ¬ (ls.getD k default).co > most) ∧ (¬ (k : Int) > 0 ∨ ¬ (ls.getD ((k : Int) - 1).toNat default).to ≥ (ls.getD k default).to)) : pairOK most (lastOf ls k) ls[k] = true := by
  rw [getD_at hk] at h
  exact rpair_t h
theorem last_0 (ls : List LinkS) : 0 ≤ lastOf ls 0 := by simp [lastOf]
theorem last_s {most last : Int} {ls : List LinkS} {k : Nat} (hk : k < ls.length) (h0 : 0 ≤ last) (h : pairOK most last ls[k] = true) : 0 ≤ lastOf ls (k + 1) := by
  have := (pair_is.1 h).1
  rw [lastOf_succ hk]; omega
theorem chain_no {most : Int} {ls : List LinkS} {last : Int} {k : Nat} (h : chain most 0 ls = chain most last (ls.drop k)) (hk : k < ls.length) (h2 : pairOK most last ls[k] = false) : chain most 0 ls = false := by
  rw [h, chain_drop hk, h2, Bool.false_and]
theorem chain_go {most : Int} {ls : List LinkS} {last : Int} {k : Nat} (h : chain most 0 ls = chain most last (ls.drop k)) (hk : k < ls.length) (h2 : pairOK most last ls[k] = true) : chain most 0 ls = chain most ls[k].to (ls.drop (k + 1)) := by
  rw [h, chain_drop hk, h2, Bool.true_and]
theorem chain_fin {most : Int} {ls : List LinkS} {last : Int} (h : chain most 0 ls = chain most last (ls.drop ls.length)) : chain most 0 ls = true := by rw [h, chain_end]
theorem lsas_no {ls : List Lsa} {last : Int} {k : Nat} (h : lsasOK 0 ls = lsasOK last (ls.drop k)) (hk : k < ls.length) (h2 : (lsaOK ls[k] && decide (last < ls[k].o)) = false) : lsasOK 0 ls = false := by
  rw [h, lsas_drop hk, h2, Bool.false_and]
theorem lsas_go {ls : List Lsa} {last : Int} {k : Nat} (h : lsasOK 0 ls = lsasOK last (ls.drop k)) (hk : k < ls.length) (h2 : (lsaOK ls[k] && decide (last < ls[k].o)) = true) : lsasOK 0 ls = lsasOK ls[k].o (ls.drop (k + 1)) := by
  rw [h, lsas_drop hk, h2, Bool.true_and]
theorem lsas_fin {ls : List Lsa} {last : Int} (h : lsasOK 0 ls = lsasOK last (ls.drop ls.length)) : lsasOK 0 ls = true := by rw [h, lsas_end]
theorem lsa_t {x : Lsa} {last : Int} (h : ¬ lsaE x ≠ 0 ∧ ¬ x.o ≤ last) : (lsaOK x && decide (last < x.o)) = true := by
  rw [lsaE_eq (Decidable.not_not.1 h.1), decide_eq_true (by omega)]; rfl
theorem lsa_f {x : Lsa} {last : Int} (h : lsaE x ≠ 0 ∨ x.o ≤ last) : (lsaOK x && decide (last < x.o)) = false := by
  rcases h with h | h
  · rw [lsaE_ne h, Bool.false_and]
  · rw [decide_eq_false (by omega), Bool.and_false]
theorem rlsa_t {ls : List Lsa} {k : Nat} {x : Lsa} (h : (!lsaOK x) = false ∧ (¬ (k : Int) > 0 ∨ ¬ (ls.getD ((k : Int) - 1).toNat default).o ≥ x.o)) : (lsaOK x && decide (lastL ls k < x.o)) = true := by
  have h1 : lsaOK x = true := by simpa using h.1
  have := (lsa_bd h1).1
  rw [h1, decide_eq_true ?_]; rfl
  unfold lastL
  split
  · omega
  · rcases h.2 with h6 | h6 <;> omega
theorem rlsa_f {ls : List Lsa} {k : Nat} {x : Lsa} (h : (!lsaOK x) = true ∨ ((k : Int) > 0 ∧ (ls.getD ((k : Int) - 1).toNat default).o ≥ x.o)) : (lsaOK x && decide (lastL ls k < x.o)) = false := by
  rcases h with h | ⟨h, h'⟩
  · have : lsaOK x = false := by simpa using h
    rw [this, Bool.false_and]
  · rw [decide_eq_false ?_, Bool.and_false]
    rw [lastL, if_neg (by omega)]; omega
theorem rlsa_tg {ls : List Lsa} {k : Nat} (hk : k < ls.length) (h : (!lsaOK ls[k]) = false ∧ (¬ (k : Int) > 0 ∨ ¬ (ls.getD ((k : Int) - 1).toNat default).o ≥ (ls.getD k default).o)) : (lsaOK ls[k] && decide (lastL ls k < ls[k].o)) = true := by
  rw [getD_at hk] at h
  exact rlsa_t h
theorem rlsa_fg {ls : List Lsa} {k : Nat} (hk : k < ls.length) (h : (!lsaOK ls[k]) = true ∨ ((k : Int) > 0 ∧ (ls.getD ((k : Int) - 1).toNat default).o ≥ (ls.getD k default).o)) : (lsaOK ls[k] && decide (lastL ls k < ls[k].o)) = false := by
  rw [getD_at hk] at h
  exact rlsa_f h
theorem fa {a b : Bool} (h : a = false) : (a && b) = false := by rw [h, Bool.false_and]
theorem ta {a b : Bool} (h : a = true) : (a && b) = b := by rw [h, Bool.true_and]
theorem good_heard (nil : Bool) (l : List LinkS) (hl : l.length ≤ 9223372036854775807) : Good Try.prog 61 [(.sl 2 nil (l.map linkA), false)] [] [(.b (heardOK l), false)] [] := by
 refine good_of_body2 33 Try.func61 rfl rfl rfl (by simp) ?_
 intro s m ha hr hv hG
 have f0 : s 0 = .v (.sl 2 nil (l.map linkA)) := ha 0 _ rfl
 clear ha
 refine AW.sr (cfg := cfg) ?_
 iterate 1 (apply aops_step (by decide) rfl; · (intro K hK; simp (disch := first | omega | decide) only [go_sem, f0]; exact hK _))
 refine aops_nil ?_
 refine AW.sr (cfg := cfg) ?_
 iterate 1 (apply aops_step (by decide) rfl; · (intro K hK; simp (disch := first | omega | decide) only [go_sem, f0]; exact hK _))
 refine aops_nil ?_
 refine AW.seq ?_
 refine AW.sr (cfg := cfg) ?_
 iterate 3 (apply aops_step (by decide) rfl; · (intro K hK; simp (disch := first | omega | decide) only [go_sem, f0, List.map, List.length_map, aops_len u24]; exact hK _))
 refine aops_nil ?_
 refine AW.block ?_
 refine AW.forN (fun k σ => ∃ s m last, σ = ⟨33, s, m⟩ ∧ s 0 = .v (.sl 2 nil (l.map linkA)) ∧ s 3 = .v (i64 last) ∧ s 6 = .v (.sl 2 nil (l.map linkA)) ∧ s 7 = .v (i64 (l.length : Int)) ∧ s 8 = .v (i64 (k : Int)) ∧ (chain 1073741824 0 l = chain 1073741824 last (l.drop k)) ∧ (∀ i, (m.objs (.res i)).2 = .dead) ∧ m.G = []) (l.length) ?_ ?_ ?_
 ·refine ⟨_, _, 0, rfl, ?_, ?_, ?_, ?_, ?_, ?_, (by intro i; simp [Mem.set, hr]), (by exact hG)⟩ <;> try simp (disch := first | omega | decide) only [go_sem, f0]
  all_goals rfl
 ·clear f0 hr hG
  rintro k σ hk ⟨s, m, last, rfl, f0, f3, f6, f7, f8, mo0, hr, hG⟩
  refine AW.sr (cfg := cfg) ?_
  iterate 1 (apply aops_step (by decide) rfl; · (intro K hK; simp (disch := first | omega | decide) only [go_sem, f0, f3, f6, f7, f8]; exact hK _))
  refine aops_nil ?_
  refine AW.seq ?_
  apply AW.cond
  ·(simp only [go_sem, f0, f3, f6, f7, f8]; rfl)
  case hf => intro hb; (simp at hb; omega)
  case ht =>
  intro hb
  have hbt9 := hb
  refine AW.skip ?_
  refine AW.seq ?_
  refine AW.block ?_
  refine AW.sr (cfg := cfg) ?_
  apply aops_step (by decide) rfl
  ·intro K hK
   simp (disch := first | omega | decide) only [go_sem, f0, f3, f6, f7, f8, act_indexAddr_s u24 ti74, List.map]
   skip
   exact hK _
  apply aops_step (by decide) rfl
  ·intro K hK
   simp (disch := first | omega | decide) only [go_sem, f0, f3, f6, f7, f8, act_load_t ti74, List.map]
   rw [mwp_load_is (by simp)]
   exact hK _
  apply aops_step (by decide) rfl
  ·intro K hK
   simp (disch := first | omega | decide) only [go_sem, f0, f3, f6, f7, f8, act_alloc_t ti74, List.map]
   exact hK _
  apply aops_step0 rfl
  ·intro K hK
   simp (disch := first | omega | decide) only [go_sem, f0, f3, f6, f7, f8, act_store_t ti74, List.map]
   rw [mwp_store_c (by simp (disch := first | omega | decide) only [go_sem, f0, f3, f6, f7, f8]; rfl) (by rfl) (by rfl) (by rfl) (by simp)]
   try simp only [setAt, cellsL, cellsOf_agg, cellsOf_base, List.map_cons, List.map_nil, List.set_cons_zero, List.set_cons_succ, Nat.reduceAdd, Nat.zero_add, hG]
   exact hK _
  refine aops_nil ?_
  refine AW.seq ?_
  refine AW.sr (cfg := cfg) ?_
  refine aops_fl (by decide) (by decide) fo74_0 ti3 (by simp only [go_sem, f0, f3, f6, f7, f8]; rfl) (by simp only [go_sem, f0, f3, f6, f7, f8]; rfl) (by rfl) ?_
  iterate 3 (apply aops_step (by decide) rfl; · (intro K hK; simp (disch := first | omega | decide) only [go_sem, f0, f3, f6, f7, f8]; exact hK _))
  refine aops_flm (dg := 16) (by decide) (by decide) (by decide) fo74_0 ti3 rfl (by simp only [go_sem, f0, f3, f6, f7, f8]; rfl) (by simp only [go_sem, f0, f3, f6, f7, f8]; rfl) (by simp only [go_sem, f0, f3, f6, f7, f8]; rfl) (by rfl) ?_
  apply aops_merge' (by decide) (by exact want_of (d := 16) rfl (by simp only [go_sem, f0, f3, f6, f7, f8, opn_cond]; rfl))
  ·intro hc K hK
   simp (disch := first | omega | decide) only [go_sem, f0, f3, f6, f7, f8, opn_cond, hc, if_true]
   exact hK _
  iterate 2 (apply aops_step (by decide) rfl; · (intro K hK; simp (disch := first | omega | decide) only [go_sem, f0, f3, f6, f7, f8]; exact hK _))
  refine aops_flm (dg := 21) (by decide) (by decide) (by decide) fo74_1 ti3 rfl (by simp only [go_sem, f0, f3, f6, f7, f8]; rfl) (by simp only [go_sem, f0, f3, f6, f7, f8]; rfl) (by simp only [go_sem, f0, f3, f6, f7, f8]; rfl) (by rfl) ?_
  apply aops_merge' (by decide) (by exact want_of (d := 21) rfl (by simp only [go_sem, f0, f3, f6, f7, f8, opn_cond]; rfl))
  ·intro hc K hK
   have hc2 := hc
   simp only [beq_iff_eq, decide_eq_true_eq, decide_eq_false_iff_not, Bool.or_eq_true, Bool.and_eq_true, Bool.or_eq_false_iff, Bool.and_eq_false_iff] at hc2
   simp (disch := first | omega | decide) only [go_sem, f0, f3, f6, f7, f8, opn_cond, hc, if_true, act_call, List.map]
   apply mwp_call_s rfl rfl rfl
   ·intro Q hQ
    (simp (disch := first | omega | decide) only [go_sem, f0, f3, f6, f7, f8, opn_cond, hc, if_true, peekL, reifyL_nil, reifyL_cons, reify_v]; (exact hQ))
   ·exact good_withinK _ _ _
   ·simp [-List.map_take, -List.map_drop, -List.map_append, -List.map_replicate, -List.reduceReplicate, noPtrL, noPtr, noPtrL_bsl, noPtrL_map, sub]
   ·rfl
   ·exact hK _
  apply aops_merge' (by decide) (by exact want_of (d := 21) rfl (by simp only [go_sem, f0, f3, f6, f7, f8, opn_cond]; rfl))
  ·intro hc K hK
   simp (disch := first | omega | decide) only [go_sem, f0, f3, f6, f7, f8, opn_cond, hc, if_true]
   exact hK _
  iterate 1 (apply aops_step (by decide) rfl; · (intro K hK; simp (disch := first | omega | decide) only [go_sem, f0, f3, f6, f7, f8]; exact hK _))
  refine aops_nil ?_
  apply AW.cond
  ·(simp only [go_sem, f0, f3, f6, f7, f8]; rfl)
  case ht =>
   intro hb
   try simp only [bo1, bo2, bo3, bo4, bo5, bo6] at hb
   have hbt26 := hb
   refine AW.sr (cfg := cfg) ?_
   iterate 1 (apply aops_step (by decide) rfl; · (intro K hK; simp (disch := first | omega | decide) only [go_sem, f0, f3, f6, f7, f8]; exact hK _))
   refine aops_nil ?_
   refine AW.ret ?_
   refine ⟨.inr rfl, ?_⟩
   refine leaves_tmp1 2 rfl ?_ (by exact hG)
   simp (disch := first | omega | decide) only [go_sem, f0, f3, f6, f7, f8]
   all_goals (rw [heardOK, fa (chain_no mo0 hk (pair_f hb))]; done)
  case hf =>
   intro hb
   try simp only [bo1, bo2, bo3, bo4, bo5, bo6] at hb
   have hbt26 := hb
   refine AW.skip ?_
   refine AW.region (cfg := cfg) ?_
   refine aops_fl (by decide) (by decide) fo74_0 ti3 (by simp only [go_sem, f0, f3, f6, f7, f8]; rfl) (by simp only [go_sem, f0, f3, f6, f7, f8]; rfl) (by rfl) ?_
   iterate 1 (apply aops_step (by decide) rfl; · (intro K hK; simp (disch := first | omega | decide) only [go_sem, f0, f3, f6, f7, f8]; exact hK _))
   refine aops_nil ?_
   refine AW.region (cfg := cfg) ?_
   iterate 2 (apply aops_step (by decide) rfl; · (intro K hK; simp (disch := first | omega | decide) only [go_sem, f0, f3, f6, f7, f8]; exact hK _))
   refine aops_nil ?_
   refine ⟨_, _, l[k].to, rfl, ?_, ?_, ?_, ?_, ?_, ?_, (by intro i; simp [Mem.set, hr]), (by exact hG)⟩ <;> try simp (disch := first | omega | decide) only [go_sem, f0, f3, f6, f7, f8]
   all_goals first | rfl | exact chain_go mo0 hk (pair_t hb)
 ·clear f0 hr hG
  rintro σ ⟨s, m, last, rfl, f0, f3, f6, f7, f8, mo0, hr, hG⟩
  refine AW.sr (cfg := cfg) ?_
  iterate 1 (apply aops_step (by decide) rfl; · (intro K hK; simp (disch := first | omega | decide) only [go_sem, f0, f3, f6, f7, f8]; exact hK _))
  refine aops_nil ?_
  refine AW.seq ?_
  apply AW.cond
  ·(simp only [go_sem, f0, f3, f6, f7, f8]; rfl)
  case ht => intro hb; (simp at hb; done)
  case hf =>
  intro hb
  have hbt9 := hb
  refine AW.exit ?_
  refine AW.sr (cfg := cfg) ?_
  iterate 4 (apply aops_step (by decide) rfl; · (intro K hK; simp (disch := first | omega | decide) only [go_sem, f0, f3, f6, f7, f8, List.map, List.length_map, aops_len u24]; exact hK _))
  refine aops_nil ?_
  refine AW.ret ?_
  refine ⟨.inr rfl, ?_⟩
  refine leaves_tmp1 2 rfl ?_ (by exact hG)
  simp (disch := first | omega | decide) only [go_sem, f0, f3, f6, f7, f8]
  all_goals (rw [heardOK, ta (chain_fin mo0)]; done)
theorem good_items (nil : Bool) (l : List LinkS) (hl : l.length ≤ 9223372036854775807) : Good Try.prog 62 [(.sl 2 nil (l.map linkA), false)] [] [(.b (itemsOK l), false)] [] := by
 refine good_of_body2 30 Try.func62 rfl rfl rfl (by simp) ?_
 intro s m ha hr hv hG
 have f0 : s 0 = .v (.sl 2 nil (l.map linkA)) := ha 0 _ rfl
 clear ha
 refine AW.sr (cfg := cfg) ?_
 iterate 1 (apply aops_step (by decide) rfl; · (intro K hK; simp (disch := first | omega | decide) only [go_sem, f0]; exact hK _))
 refine aops_nil ?_
 refine AW.sr (cfg := cfg) ?_
 iterate 1 (apply aops_step (by decide) rfl; · (intro K hK; simp (disch := first | omega | decide) only [go_sem, f0]; exact hK _))
 refine aops_nil ?_
 refine AW.seq ?_
 refine AW.sr (cfg := cfg) ?_
 iterate 3 (apply aops_step (by decide) rfl; · (intro K hK; simp (disch := first | omega | decide) only [go_sem, f0, List.map, List.length_map, aops_len u25]; exact hK _))
 refine aops_nil ?_
 refine AW.block ?_
 refine AW.forN (fun k σ => ∃ s m last, σ = ⟨30, s, m⟩ ∧ s 0 = .v (.sl 2 nil (l.map linkA)) ∧ s 3 = .v (i64 last) ∧ s 6 = .v (.sl 2 nil (l.map linkA)) ∧ s 7 = .v (i64 (l.length : Int)) ∧ s 8 = .v (i64 (k : Int)) ∧ (chain 4611686018427387904 0 l = chain 4611686018427387904 last (l.drop k)) ∧ (∀ i, (m.objs (.res i)).2 = .dead) ∧ m.G = []) (l.length) ?_ ?_ ?_
 ·refine ⟨_, _, 0, rfl, ?_, ?_, ?_, ?_, ?_, ?_, (by intro i; simp [Mem.set, hr]), (by exact hG)⟩ <;> try simp (disch := first | omega | decide) only [go_sem, f0]
  all_goals rfl
 ·clear f0 hr hG
  rintro k σ hk ⟨s, m, last, rfl, f0, f3, f6, f7, f8, mo0, hr, hG⟩
  refine AW.sr (cfg := cfg) ?_
  iterate 1 (apply aops_step (by decide) rfl; · (intro K hK; simp (disch := first | omega | decide) only [go_sem, f0, f3, f6, f7, f8]; exact hK _))
  refine aops_nil ?_
  refine AW.seq ?_
  apply AW.cond
  ·(simp only [go_sem, f0, f3, f6, f7, f8]; rfl)
  case hf => intro hb; (simp at hb; omega)
  case ht =>
  intro hb
  have hbt9 := hb
  refine AW.skip ?_
  refine AW.seq ?_
  refine AW.block ?_
  refine AW.sr (cfg := cfg) ?_
  apply aops_step (by decide) rfl
  ·intro K hK
   simp (disch := first | omega | decide) only [go_sem, f0, f3, f6, f7, f8, act_indexAddr_s u25 ti76, List.map]
   skip
   exact hK _
  apply aops_step (by decide) rfl
  ·intro K hK
   simp (disch := first | omega | decide) only [go_sem, f0, f3, f6, f7, f8, act_load_t ti76, List.map]
   rw [mwp_load_is (by simp)]
   exact hK _
  apply aops_step (by decide) rfl
  ·intro K hK
   simp (disch := first | omega | decide) only [go_sem, f0, f3, f6, f7, f8, act_alloc_t ti76, List.map]
   exact hK _
  apply aops_step0 rfl
  ·intro K hK
   simp (disch := first | omega | decide) only [go_sem, f0, f3, f6, f7, f8, act_store_t ti76, List.map]
   rw [mwp_store_c (by simp (disch := first | omega | decide) only [go_sem, f0, f3, f6, f7, f8]; rfl) (by rfl) (by rfl) (by rfl) (by simp)]
   try simp only [setAt, cellsL, cellsOf_agg, cellsOf_base, List.map_cons, List.map_nil, List.set_cons_zero, List.set_cons_succ, Nat.reduceAdd, Nat.zero_add, hG]
   exact hK _
  refine aops_nil ?_
  refine AW.seq ?_
  refine AW.sr (cfg := cfg) ?_
  refine aops_fl (by decide) (by decide) fo76_0 ti3 (by simp only [go_sem, f0, f3, f6, f7, f8]; rfl) (by simp only [go_sem, f0, f3, f6, f7, f8]; rfl) (by rfl) ?_
  iterate 3 (apply aops_step (by decide) rfl; · (intro K hK; simp (disch := first | omega | decide) only [go_sem, f0, f3, f6, f7, f8]; exact hK _))
  refine aops_flm (dg := 16) (by decide) (by decide) (by decide) fo76_0 ti3 rfl (by simp only [go_sem, f0, f3, f6, f7, f8]; rfl) (by simp only [go_sem, f0, f3, f6, f7, f8]; rfl) (by simp only [go_sem, f0, f3, f6, f7, f8]; rfl) (by rfl) ?_
  apply aops_merge' (by decide) (by exact want_of (d := 16) rfl (by simp only [go_sem, f0, f3, f6, f7, f8, opn_cond]; rfl))
  ·intro hc K hK
   simp (disch := first | omega | decide) only [go_sem, f0, f3, f6, f7, f8, opn_cond, hc, if_true]
   exact hK _
  iterate 2 (apply aops_step (by decide) rfl; · (intro K hK; simp (disch := first | omega | decide) only [go_sem, f0, f3, f6, f7, f8]; exact hK _))
  refine aops_flm (dg := 21) (by decide) (by decide) (by decide) fo76_1 ti3 rfl (by simp only [go_sem, f0, f3, f6, f7, f8]; rfl) (by simp only [go_sem, f0, f3, f6, f7, f8]; rfl) (by simp only [go_sem, f0, f3, f6, f7, f8]; rfl) (by rfl) ?_
  apply aops_merge' (by decide) (by exact want_of (d := 21) rfl (by simp only [go_sem, f0, f3, f6, f7, f8, opn_cond]; rfl))
  ·intro hc K hK
   have hc2 := hc
   simp only [beq_iff_eq, decide_eq_true_eq, decide_eq_false_iff_not, Bool.or_eq_true, Bool.and_eq_true, Bool.or_eq_false_iff, Bool.and_eq_false_iff] at hc2
   simp (disch := first | omega | decide) only [go_sem, f0, f3, f6, f7, f8, opn_cond, hc, if_true, act_call, List.map]
   apply mwp_call_s rfl rfl rfl
   ·intro Q hQ
    (simp (disch := first | omega | decide) only [go_sem, f0, f3, f6, f7, f8, opn_cond, hc, if_true, peekL, reifyL_nil, reifyL_cons, reify_v]; (exact hQ))
   ·exact good_withinK _ _ _
   ·simp [-List.map_take, -List.map_drop, -List.map_append, -List.map_replicate, -List.reduceReplicate, noPtrL, noPtr, noPtrL_bsl, noPtrL_map, sub]
   ·rfl
   ·exact hK _
  apply aops_merge' (by decide) (by exact want_of (d := 21) rfl (by simp only [go_sem, f0, f3, f6, f7, f8, opn_cond]; rfl))
  ·intro hc K hK
   simp (disch := first | omega | decide) only [go_sem, f0, f3, f6, f7, f8, opn_cond, hc, if_true]
   exact hK _
  iterate 1 (apply aops_step (by decide) rfl; · (intro K hK; simp (disch := first | omega | decide) only [go_sem, f0, f3, f6, f7, f8]; exact hK _))
  refine aops_nil ?_
  apply AW.cond
  ·(simp only [go_sem, f0, f3, f6, f7, f8]; rfl)
  case ht =>
   intro hb
   try simp only [bo1, bo2, bo3, bo4, bo5, bo6] at hb
   have hbt26 := hb
   refine AW.sr (cfg := cfg) ?_
   iterate 1 (apply aops_step (by decide) rfl; · (intro K hK; simp (disch := first | omega | decide) only [go_sem, f0, f3, f6, f7, f8]; exact hK _))
   refine aops_nil ?_
   refine AW.ret ?_
   refine ⟨.inr rfl, ?_⟩
   refine leaves_tmp1 2 rfl ?_ (by exact hG)
   simp (disch := first | omega | decide) only [go_sem, f0, f3, f6, f7, f8]
   all_goals (rw [itemsOK, chain_no mo0 hk (pair_f hb)]; done)
  case hf =>
   intro hb
   try simp only [bo1, bo2, bo3, bo4, bo5, bo6] at hb
   have hbt26 := hb
   refine AW.skip ?_
   refine AW.region (cfg := cfg) ?_
   refine aops_fl (by decide) (by decide) fo76_0 ti3 (by simp only [go_sem, f0, f3, f6, f7, f8]; rfl) (by simp only [go_sem, f0, f3, f6, f7, f8]; rfl) (by rfl) ?_
   iterate 1 (apply aops_step (by decide) rfl; · (intro K hK; simp (disch := first | omega | decide) only [go_sem, f0, f3, f6, f7, f8]; exact hK _))
   refine aops_nil ?_
   refine AW.region (cfg := cfg) ?_
   iterate 2 (apply aops_step (by decide) rfl; · (intro K hK; simp (disch := first | omega | decide) only [go_sem, f0, f3, f6, f7, f8]; exact hK _))
   refine aops_nil ?_
   refine ⟨_, _, l[k].to, rfl, ?_, ?_, ?_, ?_, ?_, ?_, (by intro i; simp [Mem.set, hr]), (by exact hG)⟩ <;> try simp (disch := first | omega | decide) only [go_sem, f0, f3, f6, f7, f8]
   all_goals first | rfl | exact chain_go mo0 hk (pair_t hb)
 ·clear f0 hr hG
  rintro σ ⟨s, m, last, rfl, f0, f3, f6, f7, f8, mo0, hr, hG⟩
  refine AW.sr (cfg := cfg) ?_
  iterate 1 (apply aops_step (by decide) rfl; · (intro K hK; simp (disch := first | omega | decide) only [go_sem, f0, f3, f6, f7, f8]; exact hK _))
  refine aops_nil ?_
  refine AW.seq ?_
  apply AW.cond
  ·(simp only [go_sem, f0, f3, f6, f7, f8]; rfl)
  case ht => intro hb; (simp at hb; done)
  case hf =>
  intro hb
  have hbt9 := hb
  refine AW.exit ?_
  refine AW.sr (cfg := cfg) ?_
  iterate 1 (apply aops_step (by decide) rfl; · (intro K hK; simp (disch := first | omega | decide) only [go_sem, f0, f3, f6, f7, f8]; exact hK _))
  refine aops_nil ?_
  refine AW.ret ?_
  refine ⟨.inr rfl, ?_⟩
  refine leaves_tmp1 2 rfl ?_ (by exact hG)
  simp (disch := first | omega | decide) only [go_sem, f0, f3, f6, f7, f8]
  all_goals (rw [itemsOK, chain_fin mo0]; done)
theorem good_lsas (nil : Bool) (l : List Lsa) (hl : l.length ≤ 9223372036854775807) (pl : ∀ x ∈ l, x.ls.length ≤ 9223372036854775807) : Good Try.prog 63 [(.sl 3 nil (l.map lsaA), false)] [] [(.b (lsasM l), false)] [] := by
 refine good_of_body2 27 Try.func63 rfl rfl rfl (by simp) ?_
 intro s m ha hr hv hG
 have f0 : s 0 = .v (.sl 3 nil (l.map lsaA)) := ha 0 _ rfl
 clear ha
 refine AW.sr (cfg := cfg) ?_
 iterate 1 (apply aops_step (by decide) rfl; · (intro K hK; simp (disch := first | omega | decide) only [go_sem, f0]; exact hK _))
 refine aops_nil ?_
 refine AW.sr (cfg := cfg) ?_
 iterate 1 (apply aops_step (by decide) rfl; · (intro K hK; simp (disch := first | omega | decide) only [go_sem, f0]; exact hK _))
 refine aops_nil ?_
 refine AW.seq ?_
 refine AW.sr (cfg := cfg) ?_
 iterate 3 (apply aops_step (by decide) rfl; · (intro K hK; simp (disch := first | omega | decide) only [go_sem, f0, List.map, List.length_map, aops_len u26]; exact hK _))
 refine aops_nil ?_
 refine AW.block ?_
 refine AW.forN (fun k σ => ∃ s m last, σ = ⟨27, s, m⟩ ∧ s 0 = .v (.sl 3 nil (l.map lsaA)) ∧ s 3 = .v (i64 last) ∧ s 6 = .v (.sl 3 nil (l.map lsaA)) ∧ s 7 = .v (i64 (l.length : Int)) ∧ s 8 = .v (i64 (k : Int)) ∧ (lsasOK 0 l = lsasOK last (l.drop k)) ∧ (∀ i, (m.objs (.res i)).2 = .dead) ∧ m.G = []) (l.length) ?_ ?_ ?_
 ·refine ⟨_, _, 0, rfl, ?_, ?_, ?_, ?_, ?_, ?_, (by intro i; simp [Mem.set, hr]), (by exact hG)⟩ <;> try simp (disch := first | omega | decide) only [go_sem, f0]
  all_goals rfl
 ·clear f0 hr hG
  rintro k σ hk ⟨s, m, last, rfl, f0, f3, f6, f7, f8, mo0, hr, hG⟩
  refine AW.sr (cfg := cfg) ?_
  iterate 1 (apply aops_step (by decide) rfl; · (intro K hK; simp (disch := first | omega | decide) only [go_sem, f0, f3, f6, f7, f8]; exact hK _))
  refine aops_nil ?_
  refine AW.seq ?_
  apply AW.cond
  ·(simp only [go_sem, f0, f3, f6, f7, f8]; rfl)
  case hf => intro hb; (simp at hb; omega)
  case ht =>
  intro hb
  have hbt9 := hb
  refine AW.skip ?_
  refine AW.seq ?_
  refine AW.block ?_
  refine AW.seq ?_
  have pkl := pl l[k] (List.getElem_mem hk)
  refine AW.region (cfg := cfg) ?_
  apply aops_step (by decide) rfl
  ·intro K hK
   simp (disch := first | omega | decide) only [go_sem, f0, f3, f6, f7, f8, act_indexAddr_s u26 ti79, List.map]
   skip
   exact hK _
  apply aops_step (by decide) rfl
  ·intro K hK
   simp (disch := first | omega | decide) only [go_sem, f0, f3, f6, f7, f8, act_load_t ti79, List.map]
   rw [mwp_load_is (by simp)]
   exact hK _
  apply aops_step (by decide) rfl
  ·intro K hK
   simp (disch := first | omega | decide) only [go_sem, f0, f3, f6, f7, f8, act_alloc_t ti79, List.map]
   exact hK _
  apply aops_step0 rfl
  ·intro K hK
   simp (disch := first | omega | decide) only [go_sem, f0, f3, f6, f7, f8, act_store_t ti79, List.map]
   rw [mwp_store_c (by simp (disch := first | omega | decide) only [go_sem, f0, f3, f6, f7, f8]; rfl) (by rfl) (by rfl) (by rfl) (by simp)]
   try simp only [setAt, cellsL, cellsOf_agg, cellsOf_base, List.map_cons, List.map_nil, List.set_cons_zero, List.set_cons_succ, Nat.reduceAdd, Nat.zero_add, hG]
   exact hK _
  refine aops_nil ?_
  refine AW.seq ?_
  refine AW.sr (cfg := cfg) ?_
  apply aops_step (by decide) rfl
  ·intro K hK
   simp (disch := first | omega | decide) only [go_sem, f0, f3, f6, f7, f8, act_load_t ti79, List.map]
   rw [mwp_load_bs (by simp (disch := first | omega | decide) only [go_sem, f0, f3, f6, f7, f8]; rfl) (by simp [setAt])]
   exact hK _
  apply aops_step (by decide) rfl
  ·intro K hK
   simp (disch := first | omega | decide) only [go_sem, f0, f3, f6, f7, f8, act_call, List.map]
   apply mwp_call_s rfl rfl rfl
   ·intro Q hQ
    (simp (disch := first | omega | decide) only [go_sem, f0, f3, f6, f7, f8, peekL, reifyL_nil, reifyL_cons, reify_v]; (exact hQ))
   ·exact L.good_Check _ _ _ _ pkl
   ·simp [-List.map_take, -List.map_drop, -List.map_append, -List.map_replicate, -List.reduceReplicate, noPtrL, noPtr, noPtrL_bsl, noPtrL_map, sub]
   ·rfl
   ·exact hK _
  iterate 2 (apply aops_step (by decide) rfl; · (intro K hK; simp (disch := first | omega | decide) only [go_sem, f0, f3, f6, f7, f8]; exact hK _))
  refine aops_flm (dg := 15) (by decide) (by decide) (by decide) fo79_0 ti3 rfl (by simp only [go_sem, f0, f3, f6, f7, f8]; rfl) (by simp only [go_sem, f0, f3, f6, f7, f8]; rfl) (by simp only [go_sem, f0, f3, f6, f7, f8]; rfl) (by rfl) ?_
  apply aops_merge' (by decide) (by exact want_of (d := 15) rfl (by simp only [go_sem, f0, f3, f6, f7, f8, opn_cond]; rfl))
  ·intro hc K hK
   simp (disch := first | omega | decide) only [go_sem, f0, f3, f6, f7, f8, opn_cond, hc, if_true]
   exact hK _
  apply aops_merge' (by decide) (by exact want_of (d := 15) rfl (by simp only [go_sem, f0, f3, f6, f7, f8, opn_cond]; rfl))
  ·intro hc K hK
   simp (disch := first | omega | decide) only [go_sem, f0, f3, f6, f7, f8, opn_cond, hc, if_true]
   exact hK _
  iterate 1 (apply aops_step (by decide) rfl; · (intro K hK; simp (disch := first | omega | decide) only [go_sem, f0, f3, f6, f7, f8]; exact hK _))
  refine aops_nil ?_
  apply AW.cond
  ·(simp only [go_sem, f0, f3, f6, f7, f8]; rfl)
  case ht =>
   intro hb
   try simp only [bo1, bo2, bo3, bo4, bo5, bo6] at hb
   have hbt20 := hb
   refine AW.sr (cfg := cfg) ?_
   iterate 1 (apply aops_step (by decide) rfl; · (intro K hK; simp (disch := first | omega | decide) only [go_sem, f0, f3, f6, f7, f8]; exact hK _))
   refine aops_nil ?_
   refine AW.ret ?_
   refine ⟨.inr rfl, ?_⟩
   refine leaves_tmp1 2 rfl ?_ (by exact hG)
   simp (disch := first | omega | decide) only [go_sem, f0, f3, f6, f7, f8]
   all_goals (rw [lsasM, fa (lsas_no mo0 hk (lsa_f hb))]; done)
  case hf =>
   intro hb
   try simp only [bo1, bo2, bo3, bo4, bo5, bo6] at hb
   have hbt20 := hb
   refine AW.skip ?_
   refine AW.region (cfg := cfg) ?_
   refine aops_fl (by decide) (by decide) fo79_0 ti3 (by simp only [go_sem, f0, f3, f6, f7, f8]; rfl) (by simp only [go_sem, f0, f3, f6, f7, f8]; rfl) (by rfl) ?_
   iterate 1 (apply aops_step (by decide) rfl; · (intro K hK; simp (disch := first | omega | decide) only [go_sem, f0, f3, f6, f7, f8]; exact hK _))
   refine aops_nil ?_
   refine AW.region (cfg := cfg) ?_
   iterate 2 (apply aops_step (by decide) rfl; · (intro K hK; simp (disch := first | omega | decide) only [go_sem, f0, f3, f6, f7, f8]; exact hK _))
   refine aops_nil ?_
   refine ⟨_, _, l[k].o, rfl, ?_, ?_, ?_, ?_, ?_, ?_, (by intro i; simp [Mem.set, hr]), (by exact hG)⟩ <;> try simp (disch := first | omega | decide) only [go_sem, f0, f3, f6, f7, f8]
   all_goals first | rfl | exact lsas_go mo0 hk (lsa_t hb)
 ·clear f0 hr hG
  rintro σ ⟨s, m, last, rfl, f0, f3, f6, f7, f8, mo0, hr, hG⟩
  refine AW.sr (cfg := cfg) ?_
  iterate 1 (apply aops_step (by decide) rfl; · (intro K hK; simp (disch := first | omega | decide) only [go_sem, f0, f3, f6, f7, f8]; exact hK _))
  refine aops_nil ?_
  refine AW.seq ?_
  apply AW.cond
  ·(simp only [go_sem, f0, f3, f6, f7, f8]; rfl)
  case ht => intro hb; (simp at hb; done)
  case hf =>
  intro hb
  have hbt9 := hb
  refine AW.exit ?_
  refine AW.sr (cfg := cfg) ?_
  iterate 2 (apply aops_step (by decide) rfl; · (intro K hK; simp (disch := first | omega | decide) only [go_sem, f0, f3, f6, f7, f8, List.map, List.length_map, aops_len u26]; exact hK _))
  apply aops_step (by decide) rfl
  ·intro K hK
   simp (disch := first | omega | decide) only [go_sem, f0, f3, f6, f7, f8, act_call, List.map]
   apply mwp_call_s rfl rfl rfl
   ·intro Q hQ
    (simp (disch := first | omega | decide) only [go_sem, f0, f3, f6, f7, f8, peekL, reifyL_nil, reifyL_cons, reify_v]; (exact hQ))
   ·exact good_withinK _ _ _
   ·simp [-List.map_take, -List.map_drop, -List.map_append, -List.map_replicate, -List.reduceReplicate, noPtrL, noPtr, noPtrL_bsl, noPtrL_map, sub]
   ·rfl
   ·exact hK _
  iterate 1 (apply aops_step (by decide) rfl; · (intro K hK; simp (disch := first | omega | decide) only [go_sem, f0, f3, f6, f7, f8]; exact hK _))
  refine aops_nil ?_
  refine AW.ret ?_
  refine ⟨.inr rfl, ?_⟩
  refine leaves_tmp1 2 rfl ?_ (by exact hG)
  simp (disch := first | omega | decide) only [go_sem, f0, f3, f6, f7, f8]
  all_goals (rw [lsasM, ta (lsas_fin mo0)]; done)
theorem good_refItems (nil : Bool) (l : List LinkS) (hl : l.length ≤ 9223372036854775807) : Good Try.prog 45 [(.sl 2 nil (l.map linkA), false)] [] [(.b (itemsOK l), false)] [] := by
 refine good_of_body2 58 Try.func45 rfl rfl rfl (by simp) ?_
 intro s m ha hr hv hG
 have f0 : s 0 = .v (.sl 2 nil (l.map linkA)) := ha 0 _ rfl
 clear ha
 refine AW.sr (cfg := cfg) ?_
 iterate 1 (apply aops_step (by decide) rfl; · (intro K hK; simp (disch := first | omega | decide) only [go_sem, f0]; exact hK _))
 refine aops_nil ?_
 refine AW.seq ?_
 refine AW.sr (cfg := cfg) ?_
 iterate 1 (apply aops_step (by decide) rfl; · (intro K hK; simp (disch := first | omega | decide) only [go_sem, f0]; exact hK _))
 refine aops_nil ?_
 refine AW.block ?_
 refine AW.forN (fun k σ => ∃ s m, σ = ⟨58, s, m⟩ ∧ s 0 = .v (.sl 2 nil (l.map linkA)) ∧ s 3 = .v (i64 (k : Int)) ∧ (chain 4611686018427387904 0 l = chain 4611686018427387904 (lastOf l k) (l.drop k)) ∧ (0 ≤ lastOf l k) ∧ (∀ i, (m.objs (.res i)).2 = .dead) ∧ m.G = []) (l.length) ?_ ?_ ?_
 ·refine ⟨_, _, rfl, ?_, ?_, ?_, ?_, (by intro i; simp [Mem.set, hr]), (by exact hG)⟩ <;> try simp (disch := first | omega | decide) only [go_sem, f0]
  all_goals first | rfl | exact last_0 _
 ·clear f0 hr hG
  rintro k σ hk ⟨s, m, rfl, f0, f3, mo0, mo1, hr, hG⟩
  refine AW.seq ?_
  refine AW.sr (cfg := cfg) ?_
  iterate 4 (apply aops_step (by decide) rfl; · (intro K hK; simp (disch := first | omega | decide) only [go_sem, f0, f3, List.map, List.length_map, aops_len u25]; exact hK _))
  refine aops_nil ?_
  apply AW.cond
  ·(simp only [go_sem, f0, f3]; rfl)
  case hf => intro hb; (simp at hb; omega)
  case ht =>
  intro hb
  have hbt7 := hb
  refine AW.skip ?_
  refine AW.seq ?_
  refine AW.block ?_
  refine AW.seq ?_
  refine AW.draw (cfg := cfg) (by kernel_rfl) (by kernel_rfl) (by kernel_rfl) ?_
  iterate 2 (apply adraw_step rfl; · (intro K hK; simp (disch := first | omega | decide) only [go_sem, f0, f3]; exact hK))
  apply adraw_step rfl
  ·intro K hK
   simp (disch := first | omega | decide) only [go_sem, f0, f3, act_indexAddr_s u25 ti76, List.map]
   skip
   exact hK
  apply adraw_step rfl
  ·intro K hK
   simp (disch := first | omega | decide) only [go_sem, f0, f3, act_fieldAddr_t fo76_0, List.map]
   skip
   exact hK
  apply adraw_step rfl
  ·intro K hK
   simp (disch := first | omega | decide) only [go_sem, f0, f3, act_load_t ti3, List.map]
   rw [mwp_load_i1 (by rfl)]
   exact hK
  iterate 2 (apply adraw_step rfl; · (intro K hK; simp (disch := first | omega | decide) only [go_sem, f0, f3]; exact hK))
  apply adraw_merge' (by exact want_of (d := 16) rfl (by simp only [go_sem, f0, f3, opn_cond]; rfl))
  ·intro hc K hK
   simp (disch := first | omega | decide) only [go_sem, f0, f3, opn_cond, hc, if_true]
   exact hK
  apply adraw_merge' (by exact want_of (d := 16) rfl (by simp (disch := first | omega | decide) only [go_sem, f0, f3, opn_cond]; rfl))
  ·intro hc K hK
   simp (disch := first | omega | decide) only [go_sem, f0, f3, opn_cond, hc, if_true]
   exact hK
  apply adraw_merge' (by exact want_of (d := 16) rfl (by simp (disch := first | omega | decide) only [go_sem, f0, f3, opn_cond]; rfl))
  ·intro hc K hK
   have hc2 := hc
   simp only [beq_iff_eq, decide_eq_true_eq, decide_eq_false_iff_not, Bool.or_eq_true, Bool.and_eq_true, Bool.or_eq_false_iff, Bool.and_eq_false_iff] at hc2
   simp (disch := first | omega | decide) only [opn_cond, hc, if_true, raw_tmp, raw_int, upd_same, upd_ne, opn_v, intOf_v, idxL_some, f0, f3, act_indexAddr_s u25 ti76]
   rw [mwp_aIndex_getD (by omega) (by omega)]
   exact hK
  apply adraw_merge' (by exact want_of (d := 16) rfl (by simp only [go_sem, f0, f3, opn_cond]; rfl))
  ·intro hc K hK
   simp (disch := first | omega | decide) only [go_sem, f0, f3, opn_cond, hc, if_true, act_fieldAddr_t fo76_0]
   skip
   exact hK
  apply adraw_merge' (by exact want_of (d := 16) rfl (by simp only [go_sem, f0, f3, opn_cond]; rfl))
  ·intro hc K hK
   simp (disch := first | omega | decide) only [go_sem, f0, f3, opn_cond, hc, if_true, act_load_t ti3]
   rw [mwp_load_i1 (by rfl)]
   exact hK
  apply adraw_merge' (by exact want_of (d := 16) rfl (by simp only [go_sem, f0, f3, opn_cond]; rfl))
  ·intro hc K hK
   simp (disch := first | omega | decide) only [go_sem, f0, f3, opn_cond, hc, if_true]
   exact hK
  iterate 2 (apply adraw_step rfl; · (intro K hK; simp (disch := first | omega | decide) only [go_sem, f0, f3]; exact hK))
  apply adraw_merge' (by exact want_of (d := 24) rfl (by simp only [go_sem, f0, f3, opn_cond]; rfl))
  ·intro hc K hK
   simp (disch := first | omega | decide) only [go_sem, f0, f3, opn_cond, hc, if_true]
   exact hK
  apply adraw_merge' (by exact want_of (d := 24) rfl (by simp only [go_sem, f0, f3, opn_cond]; rfl))
  ·intro hc K hK
   simp (disch := first | omega | decide) only [go_sem, f0, f3, opn_cond, hc, if_true]
   exact hK
  apply adraw_merge' (by exact want_of (d := 24) rfl (by simp only [go_sem, f0, f3, opn_cond]; rfl))
  ·intro hc K hK
   have hc2 := hc
   simp only [beq_iff_eq, decide_eq_true_eq, decide_eq_false_iff_not, Bool.or_eq_true, Bool.and_eq_true, Bool.or_eq_false_iff, Bool.and_eq_false_iff] at hc2
   simp (disch := first | omega | decide) only [opn_cond, hc, if_true, raw_tmp, raw_int, upd_same, upd_ne, opn_v, intOf_v, idxL_some, f0, f3, act_indexAddr_s u25 ti76]
   rw [mwp_aIndex_getD (by omega) (by omega)]
   exact hK
  apply adraw_merge' (by exact want_of (d := 24) rfl (by simp only [go_sem, f0, f3, opn_cond]; rfl))
  ·intro hc K hK
   simp (disch := first | omega | decide) only [go_sem, f0, f3, opn_cond, hc, if_true, act_fieldAddr_t fo76_1]
   skip
   exact hK
  apply adraw_merge' (by exact want_of (d := 24) rfl (by simp only [go_sem, f0, f3, opn_cond]; rfl))
  ·intro hc K hK
   simp (disch := first | omega | decide) only [go_sem, f0, f3, opn_cond, hc, if_true, act_load_t ti3]
   rw [mwp_load_i1 (by rfl)]
   exact hK
  apply adraw_merge' (by exact want_of (d := 24) rfl (by simp only [go_sem, f0, f3, opn_cond]; rfl))
  ·intro hc K hK
   simp (disch := first | omega | decide) only [go_sem, f0, f3, opn_cond, hc, if_true]
   exact hK
  iterate 2 (apply adraw_step rfl; · (intro K hK; simp (disch := first | omega | decide) only [go_sem, f0, f3]; exact hK))
  apply adraw_merge' (by exact want_of (d := 32) rfl (by simp only [go_sem, f0, f3, opn_cond]; rfl))
  ·intro hc K hK
   simp (disch := first | omega | decide) only [go_sem, f0, f3, opn_cond, hc, if_true]
   exact hK
  apply adraw_merge' (by exact want_of (d := 32) rfl (by simp only [go_sem, f0, f3, opn_cond]; rfl))
  ·intro hc K hK
   simp (disch := first | omega | decide) only [go_sem, f0, f3, opn_cond, hc, if_true]
   exact hK
  apply adraw_merge' (by exact want_of (d := 32) rfl (by simp only [go_sem, f0, f3, opn_cond]; rfl))
  ·intro hc K hK
   have hc2 := hc
   simp only [beq_iff_eq, decide_eq_true_eq, decide_eq_false_iff_not, Bool.or_eq_true, Bool.and_eq_true, Bool.or_eq_false_iff, Bool.and_eq_false_iff] at hc2
   simp (disch := first | omega | decide) only [opn_cond, hc, if_true, raw_tmp, raw_int, upd_same, upd_ne, opn_v, intOf_v, idxL_some, f0, f3, act_indexAddr_s u25 ti76]
   rw [mwp_aIndex_getD (by omega) (by omega)]
   exact hK
  apply adraw_merge' (by exact want_of (d := 32) rfl (by simp only [go_sem, f0, f3, opn_cond]; rfl))
  ·intro hc K hK
   simp (disch := first | omega | decide) only [go_sem, f0, f3, opn_cond, hc, if_true, act_fieldAddr_t fo76_1]
   skip
   exact hK
  apply adraw_merge' (by exact want_of (d := 32) rfl (by simp only [go_sem, f0, f3, opn_cond]; rfl))
  ·intro hc K hK
   simp (disch := first | omega | decide) only [go_sem, f0, f3, opn_cond, hc, if_true, act_load_t ti3]
   rw [mwp_load_i1 (by rfl)]
   exact hK
  apply adraw_merge' (by exact want_of (d := 32) rfl (by simp only [go_sem, f0, f3, opn_cond]; rfl))
  ·intro hc K hK
   simp (disch := first | omega | decide) only [go_sem, f0, f3, opn_cond, hc, if_true]
   exact hK
  iterate 2 (apply adraw_step rfl; · (intro K hK; simp (disch := first | omega | decide) only [go_sem, f0, f3]; exact hK))
  apply adraw_merge' (by exact want_of (d := 40) rfl (by simp only [go_sem, f0, f3, opn_cond]; rfl))
  ·intro hc K hK
   simp (disch := first | omega | decide) only [go_sem, f0, f3, opn_cond, hc, if_true]
   exact hK
  apply adraw_merge' (by exact want_of (d := 40) rfl (by simp only [go_sem, f0, f3, opn_cond]; rfl))
  ·intro hc K hK
   simp (disch := first | omega | decide) only [go_sem, f0, f3, opn_cond, hc, if_true]
   exact hK
  apply adraw_merge' (by exact want_of (d := 40) rfl (by simp only [go_sem, f0, f3, opn_cond]; rfl))
  ·intro hc K hK
   simp (disch := first | omega | decide) only [go_sem, f0, f3, opn_cond, hc, if_true]
   exact hK
  apply adraw_merge' (by exact want_of_cond (d := 43) rfl (by simp only [go_sem, f0, f3, opn_cond]; rfl))
  ·intro hc K hK
   simp (disch := first | omega | decide) only [go_sem, f0, f3, opn_cond, hc, if_true]
   exact hK
  apply adraw_merge' (by exact want_of_cond (d := 43) rfl (by simp only [go_sem, f0, f3, opn_cond]; rfl))
  ·intro hc K hK
   simp (disch := first | omega | decide) only [go_sem, f0, f3, opn_cond, hc, if_true]
   exact hK
  apply adraw_merge' (by exact want_of_cond (d := 43) rfl (by simp only [go_sem, f0, f3, opn_cond]; rfl))
  ·intro hc K hK
   have hc2 := hc
   simp only [beq_iff_eq, decide_eq_true_eq, decide_eq_false_iff_not, Bool.or_eq_true, Bool.and_eq_true, Bool.or_eq_false_iff, Bool.and_eq_false_iff] at hc2
   simp (disch := first | omega | decide) only [go_sem, f0, f3, opn_cond, hc, if_true]
   exact hK
  apply adraw_merge' (by exact want_of_cond (d := 43) rfl (by simp only [go_sem, f0, f3, opn_cond]; rfl))
  ·intro hc K hK
   have hc2 := hc
   simp only [beq_iff_eq, decide_eq_true_eq, decide_eq_false_iff_not, Bool.or_eq_true, Bool.and_eq_true, Bool.or_eq_false_iff, Bool.and_eq_false_iff] at hc2
   simp (disch := first | omega | decide) only [opn_cond, hc, if_true, raw_tmp, raw_int, upd_same, upd_ne, opn_v, intOf_v, idxL_some, f0, f3, act_indexAddr_s u25 ti76]
   rw [mwp_aIndex_getD (by omega) (by omega)]
   exact hK
  apply adraw_merge' (by exact want_of_cond (d := 43) rfl (by simp only [go_sem, f0, f3, opn_cond]; rfl))
  ·intro hc K hK
   simp (disch := first | omega | decide) only [go_sem, f0, f3, opn_cond, hc, if_true, act_fieldAddr_t fo76_0]
   skip
   exact hK
  apply adraw_merge' (by exact want_of_cond (d := 43) rfl (by simp only [go_sem, f0, f3, opn_cond]; rfl))
  ·intro hc K hK
   simp (disch := first | omega | decide) only [go_sem, f0, f3, opn_cond, hc, if_true, act_load_t ti3]
   rw [mwp_load_i1 (by rfl)]
   exact hK
  apply adraw_merge' (by exact want_of_cond (d := 43) rfl (by simp only [go_sem, f0, f3, opn_cond]; rfl))
  ·intro hc K hK
   simp (disch := first | omega | decide) only [go_sem, f0, f3, opn_cond, hc, if_true]
   exact hK
  apply adraw_merge' (by exact want_of_cond (d := 43) rfl (by simp only [go_sem, f0, f3, opn_cond]; rfl))
  ·intro hc K hK
   simp (disch := first | omega | decide) only [go_sem, f0, f3, opn_cond, hc, if_true]
   exact hK
  apply adraw_merge' (by exact want_of_cond (d := 43) rfl (by simp only [go_sem, f0, f3, opn_cond]; rfl))
  ·intro hc K hK
   have hc2 := hc
   simp only [beq_iff_eq, decide_eq_true_eq, decide_eq_false_iff_not, Bool.or_eq_true, Bool.and_eq_true, Bool.or_eq_false_iff, Bool.and_eq_false_iff] at hc2
   simp (disch := first | omega | decide) only [opn_cond, hc, if_true, raw_tmp, raw_int, upd_same, upd_ne, opn_v, intOf_v, idxL_some, f0, f3, act_indexAddr_s u25 ti76]
   rw [mwp_aIndex_getD (by omega) (by omega)]
   exact hK
  apply adraw_merge' (by exact want_of_cond (d := 43) rfl (by simp only [go_sem, f0, f3, opn_cond]; rfl))
  ·intro hc K hK
   simp (disch := first | omega | decide) only [go_sem, f0, f3, opn_cond, hc, if_true, act_fieldAddr_t fo76_0]
   skip
   exact hK
  apply adraw_merge' (by exact want_of_cond (d := 43) rfl (by simp only [go_sem, f0, f3, opn_cond]; rfl))
  ·intro hc K hK
   simp (disch := first | omega | decide) only [go_sem, f0, f3, opn_cond, hc, if_true, act_load_t ti3]
   rw [mwp_load_i1 (by rfl)]
   exact hK
  apply adraw_merge' (by exact want_of_cond (d := 43) rfl (by simp only [go_sem, f0, f3, opn_cond]; rfl))
  ·intro hc K hK
   simp (disch := first | omega | decide) only [go_sem, f0, f3, opn_cond, hc, if_true]
   exact hK
  apply adraw_merge' (by exact want_of (d := 40) rfl (by simp only [go_sem, f0, f3, opn_cond]; rfl))
  ·intro hc K hK
   simp (disch := first | omega | decide) only [go_sem, f0, f3, opn_cond, hc, if_true]
   exact hK
  iterate 1 (apply adraw_step rfl; · (intro K hK; simp (disch := first | omega | decide) only [go_sem, f0, f3]; exact hK))
  refine adraw_nil (by kernel_rfl) ?_
  apply AW.cond
  ·(simp only [go_sem, f0, f3]; rfl)
  case ht =>
   intro hb
   try simp only [bo1, bo2, bo3, bo4, bo5, bo6] at hb
   have hbt57 := hb
   refine AW.sr (cfg := cfg) ?_
   iterate 1 (apply aops_step (by decide) rfl; · (intro K hK; simp (disch := first | omega | decide) only [go_sem, f0, f3]; exact hK _))
   refine aops_nil ?_
   refine AW.ret ?_
   refine ⟨.inr rfl, ?_⟩
   refine leaves_tmp1 2 rfl ?_ (by exact hG)
   simp (disch := first | omega | decide) only [go_sem, f0, f3]
   all_goals (rw [itemsOK, chain_no mo0 hk (rpair_fg hk mo1 hb)]; done)
  case hf =>
   intro hb
   try simp only [bo1, bo2, bo3, bo4, bo5, bo6] at hb
   have hbt57 := hb
   refine AW.skip ?_
   refine AW.region (cfg := cfg) ?_
   iterate 3 (apply aops_step (by decide) rfl; · (intro K hK; simp (disch := first | omega | decide) only [go_sem, f0, f3]; exact hK _))
   refine aops_nil ?_
   refine ⟨_, _, rfl, ?_, ?_, ?_, ?_, (by intro i; simp [Mem.set, hr]), (by exact hG)⟩ <;> try simp (disch := first | omega | decide) only [go_sem, f0, f3]
   all_goals first | rfl | (rw [lastOf_succ hk]; exact chain_go mo0 hk (rpair_tg hk hb)) | exact last_s hk mo1 (rpair_tg (most := 4611686018427387904) hk hb)
 ·clear f0 hr hG
  rintro σ ⟨s, m, rfl, f0, f3, mo0, mo1, hr, hG⟩
  refine AW.seq ?_
  refine AW.sr (cfg := cfg) ?_
  iterate 4 (apply aops_step (by decide) rfl; · (intro K hK; simp (disch := first | omega | decide) only [go_sem, f0, f3, List.map, List.length_map, aops_len u25]; exact hK _))
  refine aops_nil ?_
  apply AW.cond
  ·(simp only [go_sem, f0, f3]; rfl)
  case ht => intro hb; (simp at hb; done)
  case hf =>
  intro hb
  have hbt7 := hb
  refine AW.exit ?_
  refine AW.sr (cfg := cfg) ?_
  iterate 1 (apply aops_step (by decide) rfl; · (intro K hK; simp (disch := first | omega | decide) only [go_sem, f0, f3]; exact hK _))
  refine aops_nil ?_
  refine AW.ret ?_
  refine ⟨.inr rfl, ?_⟩
  refine leaves_tmp1 2 rfl ?_ (by exact hG)
  simp (disch := first | omega | decide) only [go_sem, f0, f3]
  all_goals (rw [itemsOK, chain_fin mo0]; done)
end Go.Vai.P
