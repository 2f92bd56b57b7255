import Derived.Test.YtblgcekomnnfmaagLsa4
import Derived.Test.YtblgcekomnnfmaaLsaPl2
namespace Go.Vai.L
open Go.Proofs Go.Vai Go.Vai.O
set_option linter.unusedSimpArgs false
set_option linter.unusedVariables false
set_option maxHeartbeats 4000000
set_option maxRecDepth 100000
theorem same_is {a b : Lsa} {k : Nat} (h0 : (a.o = b.o ∧ a.s = b.s) ∧ (a.ls.length : Int) = (b.ls.length : Int)) (h : a.ls.take k = b.ls.take k) (hk : k = a.ls.length) : lsaEq a b = true := by
  have : a.ls = b.ls := by
    have e : k = b.ls.length := by omega
    rw [show a.ls.take k = a.ls by rw [hk, List.take_length], show b.ls.take k = b.ls by rw [e, List.take_length]] at h
    exact h
  simp [lsaEq, h0.1.1, h0.1.2, this]
theorem same_no {a b : Lsa} (h : (¬ a.o = b.o ∨ ¬ a.s = b.s) ∨ ¬ (a.ls.length : Int) = (b.ls.length : Int)) : lsaEq a b = false := by
  cases e : lsaEq a b with
  | false => rfl
  | true =>
    simp [lsaEq] at e
    rcases h with (h | h) | h
    · exact absurd e.1 h
    · exact absurd e.2.1 h
    · rw [e.2.2] at h; exact absurd rfl h
theorem same_at {a b : Lsa} {k : Nat} (h1 : k < a.ls.length) (h2 : k < b.ls.length) (h : ¬ a.ls[k] = b.ls[k]) : lsaEq a b = false := by
  cases e : lsaEq a b with
  | false => rfl
  | true =>
    simp [lsaEq] at e
    exact absurd (by simp [e.2.2]) h
theorem good_refSame (x : Lsa) (hx : x.ls.length ≤ 9223372036854775807)(y : Lsa) (hy : y.ls.length ≤ 9223372036854775807) : Good Try.prog 80 [(lsaA x, false), (lsaA y, false)] [] [(.b (lsaEq x y), false)] [] := by
 refine good_of_body2 45 Try.func80 rfl rfl rfl (by simp) ?_
 intro s m ha hr hv hG
 have f0 : s 0 = .v (.agg [i64 x.o, i64 x.s, .sl 2 x.nil (x.ls.map linkA)]) := ha 0 _ rfl
 have f1 : s 1 = .v (.agg [i64 y.o, i64 y.s, .sl 2 y.nil (y.ls.map linkA)]) := ha 1 _ rfl
 clear ha
 refine AW.sr (cfg := cfg) ?_
 apply aops_step (by decide) rfl
 ·intro K hK
  simp (disch := first | omega | decide) only [go_sem, f0, f1, act_box_t ti79, List.map]
  rw [settleL_vish _ _ (by rfl)]
  simp (disch := first | omega | decide) only [go_sem, f0, f1, cellsL, List.map, List.length_cons, List.length_nil, Nat.reduceAdd, if_true]
  exact hK _
 apply aops_step (by decide) rfl
 ·intro K hK
  simp (disch := first | omega | decide) only [go_sem, f0, f1, act_box_t ti79, List.map]
  rw [settleL_vish _ _ (by rfl)]
  simp (disch := first | omega | decide) only [go_sem, f0, f1, cellsL, List.map, List.length_cons, List.length_nil, Nat.reduceAdd, if_true]
  exact hK _
 iterate 1 (apply aops_step (by decide) rfl; · (intro K hK; simp (disch := first | omega | decide) only [go_sem, f0, f1]; exact hK _))
 refine aops_nil ?_
 refine AW.seq ?_
 refine AW.sr (cfg := cfg) ?_
 refine aops_fl (by decide) (by decide) fo79_0 ti3 (by simp (disch := first | omega | decide) only [go_sem, f0, f1]; rfl) (by simp (disch := first | omega | decide) only [go_sem, f0, f1]; rfl) (by rfl) ?_
 refine aops_fl (by decide) (by decide) fo79_0 ti3 (by simp only [go_sem, f0, f1]; rfl) (by simp only [go_sem, f0, f1]; rfl) (by rfl) ?_
 iterate 2 (apply aops_step (by decide) rfl; · (intro K hK; simp (disch := first | omega | decide) only [go_sem, f0, f1]; exact hK _))
 refine aops_flm (dg := 11) (by decide) (by decide) (by decide) fo79_1 ti3 rfl (by simp (disch := first | omega | decide) only [go_sem, f0, f1]; rfl) (by simp (disch := first | omega | decide) only [go_sem, f0, f1]; rfl) (by simp (disch := first | omega | decide) only [go_sem, f0, f1]; rfl) (by rfl) ?_
 refine aops_flm (dg := 11) (by decide) (by decide) (by decide) fo79_1 ti3 rfl (by simp (disch := first | omega | decide) only [go_sem, f0, f1]; rfl) (by simp (disch := first | omega | decide) only [go_sem, f0, f1]; rfl) (by simp (disch := first | omega | decide) only [go_sem, f0, f1]; rfl) (by rfl) ?_
 apply aops_merge' (by decide) (by exact want_of (d := 11) rfl (by simp (disch := first | omega | decide) only [go_sem, f0, f1, opn_cond]; rfl))
 ·intro hc K hK
  simp (disch := first | omega | decide) only [go_sem, f0, f1, opn_cond, hc, if_true]
  exact hK _
 iterate 2 (apply aops_step (by decide) rfl; · (intro K hK; simp (disch := first | omega | decide) only [go_sem, f0, f1]; exact hK _))
 refine aops_flm (dg := 18) (by decide) (by decide) (by decide) fo79_2 ti77 rfl (by simp (disch := first | omega | decide) only [go_sem, f0, f1]; rfl) (by simp (disch := first | omega | decide) only [go_sem, f0, f1]; rfl) (by simp (disch := first | omega | decide) only [go_sem, f0, f1]; rfl) (by rfl) ?_
 apply aops_merge' (by decide) (by exact want_of (d := 18) rfl (by simp (disch := first | omega | decide) only [go_sem, f0, f1, opn_cond]; rfl))
 ·intro hc K hK
  simp (disch := first | omega | decide) only [go_sem, f0, f1, opn_cond, hc, if_true, List.map, List.length_map, aops_len u77]
  exact hK _
 refine aops_flm (dg := 18) (by decide) (by decide) (by decide) fo79_2 ti77 rfl (by simp (disch := first | omega | decide) only [go_sem, f0, f1]; rfl) (by simp (disch := first | omega | decide) only [go_sem, f0, f1]; rfl) (by simp (disch := first | omega | decide) only [go_sem, f0, f1]; rfl) (by rfl) ?_
 apply aops_merge' (by decide) (by exact want_of (d := 18) rfl (by simp (disch := first | omega | decide) only [go_sem, f0, f1, opn_cond]; rfl))
 ·intro hc K hK
  simp (disch := first | omega | decide) only [go_sem, f0, f1, opn_cond, hc, if_true, List.map, List.length_map, aops_len u77]
  exact hK _
 apply aops_merge' (by decide) (by exact want_of (d := 18) rfl (by simp (disch := first | omega | decide) only [go_sem, f0, f1, opn_cond]; rfl))
 ·intro hc K hK
  simp (disch := first | omega | decide) only [go_sem, f0, f1, opn_cond, hc, if_true]
  exact hK _
 iterate 1 (apply aops_step (by decide) rfl; · (intro K hK; simp (disch := first | omega | decide) only [go_sem, f0, f1]; exact hK _))
 refine aops_nil ?_
 apply AW.cond
 ·(simp only [go_sem, f0, f1]; rfl)
 case ht =>
  intro hb
  try simp only [bo1, bo2, bo3, bo4, bo5, bo6] at hb
  have hbt26 := hb
  refine AW.sr (cfg := cfg) ?_
  iterate 1 (apply aops_step (by decide) rfl; · (intro K hK; simp (disch := first | omega | decide) only [go_sem, f0, f1]; exact hK _))
  refine aops_nil ?_
  refine AW.ret ?_
  refine ⟨.inr rfl, ?_⟩
  refine leaves_tmp1 4 rfl ?_ (by exact hG)
  simp (disch := first | omega | decide) only [go_sem, f0, f1]
  all_goals (rw [same_no (by simpa using hbt26)]; done)
 case hf =>
  intro hb
  try simp only [bo1, bo2, bo3, bo4, bo5, bo6] at hb
  have hbt26 := hb
  refine AW.skip ?_
  refine AW.seq ?_
  refine AW.sr (cfg := cfg) ?_
  iterate 1 (apply aops_step (by decide) rfl; · (intro K hK; simp (disch := first | omega | decide) only [go_sem, f0, f1]; exact hK _))
  refine aops_nil ?_
  refine AW.block ?_
  refine AW.forN (fun k σ => ∃ s m, σ = ⟨45, s, m⟩ ∧ s 2 = .lptr (.tmp 2 0) (m.objs (.tmp 2 0)).1 0 ∧ (m.objs (.tmp 2 0)).2 = .box [.v (i64 x.o), .v (i64 x.s), .v (.sl 2 x.nil (x.ls.map linkA))] ∧ s 3 = .lptr (.tmp 3 0) (m.objs (.tmp 3 0)).1 0 ∧ (m.objs (.tmp 3 0)).2 = .box [.v (i64 y.o), .v (i64 y.s), .v (.sl 2 y.nil (y.ls.map linkA))] ∧ s 5 = .v (i64 (k : Int)) ∧ ((x.o = y.o ∧ x.s = y.s) ∧ (x.ls.length : Int) = (y.ls.length : Int)) ∧ (x.ls.take k = y.ls.take k) ∧ m.G = []) (x.ls.length) ?_ ?_ ?_
  ·refine ⟨_, _, rfl, ?_, ?_, ?_, ?_, ?_, ?_, ?_, (by exact hG)⟩ <;> try simp (disch := first | omega | decide) only [go_sem, f0, f1]
   all_goals first | rfl | (simpa using hbt26)
  ·clear f0 f1 hG
   rintro k σ hk ⟨s, m, rfl, f2, o2, f3, o3, f5, mo0, mo1, hG⟩
   obtain ⟨g2, o2⟩ : ∃ g, m.objs (.tmp 2 0) = (g, .box [.v (i64 x.o), .v (i64 x.s), .v (.sl 2 x.nil (x.ls.map linkA))]) := ⟨_, Prod.ext rfl o2⟩
   rw [o2] at f2
   obtain ⟨g3, o3⟩ : ∃ g, m.objs (.tmp 3 0) = (g, .box [.v (i64 y.o), .v (i64 y.s), .v (.sl 2 y.nil (y.ls.map linkA))]) := ⟨_, Prod.ext rfl o3⟩
   rw [o3] at f3
   refine AW.seq ?_
   refine AW.sr (cfg := cfg) ?_
   iterate 1 (apply aops_step (by decide) rfl; · (intro K hK; simp (disch := first | omega | decide) only [go_sem, f2, f3, f5, o2, o3]; exact hK _))
   refine aops_fl (by decide) (by decide) fo79_2 ti77 (by simp (disch := first | omega | decide) only [go_sem, f2, f3, f5, o2, o3]; rfl) (by simp (disch := first | omega | decide) only [go_sem, f2, f3, f5, o2, o3]; rfl) (by rfl) ?_
   iterate 2 (apply aops_step (by decide) rfl; · (intro K hK; simp (disch := first | omega | decide) only [go_sem, f2, f3, f5, o2, o3, List.map, List.length_map, aops_len u77]; exact hK _))
   refine aops_nil ?_
   apply AW.cond
   ·(simp only [go_sem, f2, f3, f5, o2, o3]; rfl)
   case hf => intro hb; (simp at hb; omega)
   case ht =>
   intro hb
   have hbt31 := hb
   refine AW.skip ?_
   refine AW.seq ?_
   refine AW.block ?_
   refine AW.seq ?_
   have hky : k < y.ls.length := by omega
   refine AW.draw (cfg := cfg) (by kernel_rfl) (by kernel_rfl) (by kernel_rfl) ?_
   apply adraw_step rfl
   ·intro K hK
    simp (disch := first | omega | decide) only [go_sem, f2, f3, f5, o2, o3, act_fieldAddr_t fo79_2, List.map]
    rw [mwp_fieldAddr_b (by simp only [go_sem, f2, f3, f5, o2, o3]; rfl)]
    exact hK
   apply adraw_step rfl
   ·intro K hK
    simp (disch := first | omega | decide) only [go_sem, f2, f3, f5, o2, o3, act_load_t ti77, List.map]
    rw [mwp_load_b1 (by simp only [go_sem, f2, f3, f5, o2, o3]; rfl) (by rfl)]
    exact hK
   iterate 1 (apply adraw_step rfl; · (intro K hK; simp (disch := first | omega | decide) only [go_sem, f2, f3, f5, o2, o3]; exact hK))
   apply adraw_step rfl
   ·intro K hK
    simp (disch := first | omega | decide) only [go_sem, f2, f3, f5, o2, o3, act_indexAddr_s u77 ti124, List.map]
    skip
    exact hK
   apply adraw_step rfl
   ·intro K hK
    simp (disch := first | omega | decide) only [go_sem, f2, f3, f5, o2, o3, act_load_t ti124, List.map]
    rw [mwp_load_is (by simp)]
    exact hK
   apply adraw_step rfl
   ·intro K hK
    simp (disch := first | omega | decide) only [go_sem, f2, f3, f5, o2, o3, act_fieldAddr_t fo79_2, List.map]
    rw [mwp_fieldAddr_b (by simp only [go_sem, f2, f3, f5, o2, o3]; rfl)]
    exact hK
   apply adraw_step rfl
   ·intro K hK
    simp (disch := first | omega | decide) only [go_sem, f2, f3, f5, o2, o3, act_load_t ti77, List.map]
    rw [mwp_load_b1 (by simp only [go_sem, f2, f3, f5, o2, o3]; rfl) (by rfl)]
    exact hK
   iterate 1 (apply adraw_step rfl; · (intro K hK; simp (disch := first | omega | decide) only [go_sem, f2, f3, f5, o2, o3]; exact hK))
   apply adraw_step rfl
   ·intro K hK
    simp (disch := first | omega | decide) only [go_sem, f2, f3, f5, o2, o3, act_indexAddr_s u77 ti124, List.map]
    skip
    exact hK
   apply adraw_step rfl
   ·intro K hK
    simp (disch := first | omega | decide) only [go_sem, f2, f3, f5, o2, o3, act_load_t ti124, List.map]
    rw [mwp_load_is (by simp)]
    exact hK
   iterate 1 (apply adraw_step rfl; · (intro K hK; simp (disch := first | omega | decide) only [go_sem, f2, f3, f5, o2, o3, bin_neq_s us124 fl124 eg124]; exact hK))
   refine adraw_nil (by kernel_rfl) ?_
   apply AW.cond
   ·(simp only [go_sem, f2, f3, f5, o2, o3]; rfl)
   case ht =>
    intro hb
    try simp only [bo1, bo2, bo3, bo4, bo5, bo6] at hb
    have hbt44 := hb
    refine AW.sr (cfg := cfg) ?_
    iterate 1 (apply aops_step (by decide) rfl; · (intro K hK; simp (disch := first | omega | decide) only [go_sem, f2, f3, f5, o2, o3]; exact hK _))
    refine aops_nil ?_
    refine AW.ret ?_
    refine ⟨.inr rfl, ?_⟩
    refine leaves_tmp1 4 rfl ?_ (by exact hG)
    simp (disch := first | omega | decide) only [go_sem, f2, f3, f5, o2, o3]
    all_goals (rw [same_at (by omega) (by omega) (fun e => link_ne hb e)]; done)
   case hf =>
    intro hb
    try simp only [bo1, bo2, bo3, bo4, bo5, bo6] at hb
    have hbt44 := hb
    refine AW.skip ?_
    refine AW.region (cfg := cfg) ?_
    iterate 3 (apply aops_step (by decide) rfl; · (intro K hK; simp (disch := first | omega | decide) only [go_sem, f2, f3, f5, o2, o3]; exact hK _))
    refine aops_nil ?_
    refine ⟨_, _, rfl, ?_, ?_, ?_, ?_, ?_, ?_, ?_, (by exact hG)⟩ <;> try simp (disch := first | omega | decide) only [go_sem, f2, f3, f5, o2, o3]
    all_goals first | rfl | assumption | skip
    all_goals (rw [List.take_succ_eq_append_getElem (by omega), List.take_succ_eq_append_getElem (by omega), mo1]; congr 2; exact link_eq hb)
  ·clear f0 f1 hG
   rintro σ ⟨s, m, rfl, f2, o2, f3, o3, f5, mo0, mo1, hG⟩
   obtain ⟨g2, o2⟩ : ∃ g, m.objs (.tmp 2 0) = (g, .box [.v (i64 x.o), .v (i64 x.s), .v (.sl 2 x.nil (x.ls.map linkA))]) := ⟨_, Prod.ext rfl o2⟩
   rw [o2] at f2
   obtain ⟨g3, o3⟩ : ∃ g, m.objs (.tmp 3 0) = (g, .box [.v (i64 y.o), .v (i64 y.s), .v (.sl 2 y.nil (y.ls.map linkA))]) := ⟨_, Prod.ext rfl o3⟩
   rw [o3] at f3
   refine AW.seq ?_
   refine AW.sr (cfg := cfg) ?_
   iterate 1 (apply aops_step (by decide) rfl; · (intro K hK; simp (disch := first | omega | decide) only [go_sem, f2, f3, f5, o2, o3]; exact hK _))
   refine aops_fl (by decide) (by decide) fo79_2 ti77 (by simp (disch := first | omega | decide) only [go_sem, f2, f3, f5, o2, o3]; rfl) (by simp (disch := first | omega | decide) only [go_sem, f2, f3, f5, o2, o3]; rfl) (by rfl) ?_
   iterate 2 (apply aops_step (by decide) rfl; · (intro K hK; simp (disch := first | omega | decide) only [go_sem, f2, f3, f5, o2, o3, List.map, List.length_map, aops_len u77]; exact hK _))
   refine aops_nil ?_
   apply AW.cond
   ·(simp only [go_sem, f2, f3, f5, o2, o3]; rfl)
   case ht => intro hb; (simp at hb; done)
   case hf =>
   intro hb
   have hbt31 := hb
   refine AW.exit ?_
   refine AW.sr (cfg := cfg) ?_
   iterate 1 (apply aops_step (by decide) rfl; · (intro K hK; simp (disch := first | omega | decide) only [go_sem, f2, f3, f5, o2, o3]; exact hK _))
   refine aops_nil ?_
   refine AW.ret ?_
   refine ⟨.inr rfl, ?_⟩
   refine leaves_tmp1 4 rfl ?_ (by exact hG)
   simp (disch := first | omega | decide) only [go_sem, f2, f3, f5, o2, o3]
   all_goals (rw [same_is mo0 mo1 rfl]; done)
theorem good_Same (x : Lsa) (hx : x.ls.length ≤ 9223372036854775807)(y : Lsa) (hy : y.ls.length ≤ 9223372036854775807) : Good Try.prog 67 [(lsaA x, false), (lsaA y, false)] [] [(.b (lsaEq x y), false)] [] := by
 refine good_of_body2 24 Try.func67 rfl rfl rfl (by simp) ?_
 intro s m ha hr hv hG
 have f0 : s 0 = .v (.agg [i64 x.o, i64 x.s, .sl 2 x.nil (x.ls.map linkA)]) := ha 0 _ rfl
 have f1 : s 1 = .v (.agg [i64 y.o, i64 y.s, .sl 2 y.nil (y.ls.map linkA)]) := ha 1 _ rfl
 clear ha
 refine AW.sr (cfg := cfg) ?_
 apply aops_step (by decide) rfl
 ·intro K hK
  simp (disch := first | omega | decide) only [go_sem, f0, f1, act_box_t ti79, List.map]
  rw [settleL_vish _ _ (by rfl)]
  simp (disch := first | omega | decide) only [go_sem, f0, f1, cellsL, List.map, List.length_cons, List.length_nil, Nat.reduceAdd, if_true]
  exact hK _
 apply aops_step (by decide) rfl
 ·intro K hK
  simp (disch := first | omega | decide) only [go_sem, f0, f1, act_box_t ti79, List.map]
  rw [settleL_vish _ _ (by rfl)]
  simp (disch := first | omega | decide) only [go_sem, f0, f1, cellsL, List.map, List.length_cons, List.length_nil, Nat.reduceAdd, if_true]
  exact hK _
 iterate 1 (apply aops_step (by decide) rfl; · (intro K hK; simp (disch := first | omega | decide) only [go_sem, f0, f1]; exact hK _))
 refine aops_nil ?_
 refine AW.sr (cfg := cfg) ?_
 refine aops_fl (by decide) (by decide) fo79_0 ti3 (by simp (disch := first | omega | decide) only [go_sem, f0, f1]; rfl) (by simp (disch := first | omega | decide) only [go_sem, f0, f1]; rfl) (by rfl) ?_
 refine aops_fl (by decide) (by decide) fo79_0 ti3 (by simp only [go_sem, f0, f1]; rfl) (by simp only [go_sem, f0, f1]; rfl) (by rfl) ?_
 iterate 2 (apply aops_step (by decide) rfl; · (intro K hK; simp (disch := first | omega | decide) only [go_sem, f0, f1]; exact hK _))
 refine aops_flm (dg := 10) (by decide) (by decide) (by decide) fo79_1 ti3 rfl (by simp (disch := first | omega | decide) only [go_sem, f0, f1]; rfl) (by simp (disch := first | omega | decide) only [go_sem, f0, f1]; rfl) (by simp (disch := first | omega | decide) only [go_sem, f0, f1]; rfl) (by rfl) ?_
 refine aops_flm (dg := 10) (by decide) (by decide) (by decide) fo79_1 ti3 rfl (by simp (disch := first | omega | decide) only [go_sem, f0, f1]; rfl) (by simp (disch := first | omega | decide) only [go_sem, f0, f1]; rfl) (by simp (disch := first | omega | decide) only [go_sem, f0, f1]; rfl) (by rfl) ?_
 apply aops_merge' (by decide) (by exact want_of (d := 10) rfl (by simp (disch := first | omega | decide) only [go_sem, f0, f1, opn_cond]; rfl))
 ·intro hc K hK
  simp (disch := first | omega | decide) only [go_sem, f0, f1, opn_cond, hc, if_true]
  exact hK _
 iterate 2 (apply aops_step (by decide) rfl; · (intro K hK; simp (disch := first | omega | decide) only [go_sem, f0, f1]; exact hK _))
 refine aops_flm (dg := 17) (by decide) (by decide) (by decide) fo79_2 ti77 rfl (by simp (disch := first | omega | decide) only [go_sem, f0, f1]; rfl) (by simp (disch := first | omega | decide) only [go_sem, f0, f1]; rfl) (by simp (disch := first | omega | decide) only [go_sem, f0, f1]; rfl) (by rfl) ?_
 refine aops_flm (dg := 17) (by decide) (by decide) (by decide) fo79_2 ti77 rfl (by simp (disch := first | omega | decide) only [go_sem, f0, f1]; rfl) (by simp (disch := first | omega | decide) only [go_sem, f0, f1]; rfl) (by simp (disch := first | omega | decide) only [go_sem, f0, f1]; rfl) (by rfl) ?_
 apply aops_merge' (by decide) (by exact want_of (d := 17) rfl (by simp (disch := first | omega | decide) only [go_sem, f0, f1, opn_cond]; rfl))
 ·intro hc K hK
  have hc2 := hc
  simp only [beq_iff_eq, decide_eq_true_eq, decide_eq_false_iff_not, Bool.or_eq_true, Bool.and_eq_true, Bool.or_eq_false_iff, Bool.and_eq_false_iff] at hc2
  simp (disch := first | omega | decide) only [go_sem, f0, f1, opn_cond, hc, if_true, act_call, List.map]
  apply mwp_call_s rfl rfl rfl
  ·intro Q hQ
   (simp (disch := first | omega | decide) only [go_sem, f0, f1, opn_cond, hc, if_true, peekL, reifyL_nil, reifyL_cons, reify_v]; (exact hQ))
  ·exact good_EqualLink _ _ _ _ (by omega) (by omega)
  ·simp [-List.map_take, -List.map_drop, -List.map_append, -List.map_replicate, -List.reduceReplicate, noPtrL, noPtr, noPtrL_bsl, noPtrL_map, sub]
  ·rfl
  ·exact hK _
 iterate 2 (apply aops_step (by decide) rfl; · (intro K hK; simp (disch := first | omega | decide) only [go_sem, f0, f1]; exact hK _))
 refine aops_nil ?_
 refine AW.ret ?_
 refine ⟨.inr rfl, ?_⟩
 refine leaves_tmp1 4 rfl ?_ (by exact hG)
 simp (disch := first | omega | decide) only [go_sem, f0, f1]
 all_goals (simp [lsaEq, Bool.and_assoc]; done)
end Go.Vai.L
