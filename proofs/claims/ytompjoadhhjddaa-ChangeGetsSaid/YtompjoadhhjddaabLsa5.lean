import Derived.Test.YtompjoadhhjddaabLsa4
import Derived.Test.YtompjoadhhjddaaLsaPl2
namespace Go.Vai.L
open Go.Proofs Go.Vai Go.Vai.O
set_option linter.unusedSimpArgs false
set_option linter.unusedVariables false


theorem cost_i {ls : List LinkS} {to : Int} (h : ¬ findI (fun x : LinkS => decide (x.to = to)) ls < 0) : costOf ls to = (ls[(findI (fun x : LinkS => decide (x.to = to)) ls).toNat]'(findI_range h).2).co := by
  unfold findI at h
  split at h
  · rename_i i hi
    obtain ⟨h1, h2, h3⟩ := List.findIdx?_eq_some_iff_getElem.1 hi
    have e : (findI (fun x : LinkS => decide (x.to = to)) ls).toNat = i := by simp [findI, hi]
    rw [cost_at h1 (fun x hx => by
      obtain ⟨j, hj, rfl⟩ := List.mem_take_iff_getElem.1 hx
      simpa using h3 j (by omega)) (by simpa using h2)]
    simp only [e]
  · omega
theorem cost_n {ls : List LinkS} {to : Int} (h : findI (fun x : LinkS => decide (x.to = to)) ls < 0) : costOf ls to = 0 := by
  unfold findI at h
  split at h
  · omega
  · rename_i hi
    exact cost_none fun x hx => by simpa using List.findIdx?_eq_none_iff.1 hi x hx
theorem same_is {a b : Lsa} {k : Nat} (h0 : (a.o = b.o ∧ a.s = b.s) ∧ (a.ls.length : Int) = (b.ls.length : Int)) (h : a.ls.take k = b.ls.take k) (hk : k = a.ls.length) : lsaEq a b = true := by
  have : a.ls = b.ls := by
    have e : k = b.ls.length := by omega
    rw [show a.ls.take k = a.ls by rw [hk, List.take_length], show b.ls.take k = b.ls by rw [e, List.take_length]] at h
    exact h
  simp [lsaEq, h0.1.1, h0.1.2, this]
theorem same_no {a b : Lsa} (h : (¬ a.o = b.o ∨ ¬ a.s = b.s) ∨ ¬ (a.ls.length : Int) = (b.ls.length : Int)) : lsaEq a b = false := by
  cases e : lsaEq a b with
  | false => rfl
  | true =>
    simp [lsaEq] at e
    rcases h with (h | h) | h
    · exact absurd e.1 h
    · exact absurd e.2.1 h
    · rw [e.2.2] at h; exact absurd rfl h
theorem same_at {a b : Lsa} {k : Nat} (h1 : k < a.ls.length) (h2 : k < b.ls.length) (h : ¬ a.ls[k] = b.ls[k]) : lsaEq a b = false := by
  cases e : lsaEq a b with
  | false => rfl
  | true =>
    simp [lsaEq] at e
    exact absurd (by simp [e.2.2]) h
set_option maxHeartbeats 4000000 in
set_option maxRecDepth 100000 in
theorem good_refSame (x : Lsa) (hx : x.ls.length ≤ 9223372036854775807)(y : Lsa) (hy : y.ls.length ≤ 9223372036854775807) : Good Try.prog 24 [(lsaA x, false), (lsaA y, false)] [] [(.b (lsaEq x y), false)] [] := by
  refine good_of_body2 45 Try.func24 rfl rfl rfl (by simp) ?_
  intro s m ha hr hv hG
  have f0 : s 0 = .v (.agg [i64 x.o, i64 x.s, .sl 2 x.nil (x.ls.map linkA)]) := ha 0 _ rfl
  have f1 : s 1 = .v (.agg [i64 y.o, i64 y.s, .sl 2 y.nil (y.ls.map linkA)]) := ha 1 _ rfl
  clear ha
  refine AW.seq ?_
  refine AW.region (cfg := cfg) ?_
  apply aops_step (by decide) rfl
  · intro K hK
    simp (disch := first | omega | decide) only [go_sem, f0, f1, act_box_t ti24, List.map, cellsOf_link]
    rw [settleL_vish _ _ (by rfl)]
    simp (disch := first | omega | decide) only [go_sem, f0, f1, cellsL, List.map, List.length_cons, List.length_nil, Nat.reduceAdd, if_true, cellsOf_link]
    exact hK _
  apply aops_step (by decide) rfl
  · intro K hK
    simp (disch := first | omega | decide) only [go_sem, f0, f1, act_box_t ti24, List.map, cellsOf_link]
    rw [settleL_vish _ _ (by rfl)]
    simp (disch := first | omega | decide) only [go_sem, f0, f1, cellsL, List.map, List.length_cons, List.length_nil, Nat.reduceAdd, if_true, cellsOf_link]
    exact hK _
  iterate 1 (apply aops_step (by decide) rfl; · (intro K hK; simp (disch := first | omega | decide) only [go_sem, f0, f1, cellsOf_link]; exact hK _))
  refine aops_nil ?_
  refine AW.seq ?_
  refine AW.seq ?_
  refine AW.region (cfg := cfg) ?_
  apply aops_step (by decide) rfl
  · intro K hK
    simp (disch := first | omega | decide) only [go_sem, f0, f1, act_fieldAddr_t fo24_0, List.map, cellsOf_link]
    rw [mwp_fieldAddr_b (by simp (disch := first | omega | decide) only [go_sem, f0, f1, cellsOf_link]; rfl)]
    exact hK _
  apply aops_step (by decide) rfl
  · intro K hK
    simp (disch := first | omega | decide) only [go_sem, f0, f1, act_load_t ti3, List.map, cellsOf_link]
    rw [mwp_load_b1 (by simp (disch := first | omega | decide) only [go_sem, f0, f1, cellsOf_link]; rfl) (by rfl)]
    exact hK _
  apply aops_step (by decide) rfl
  · intro K hK
    simp (disch := first | omega | decide) only [go_sem, f0, f1, act_fieldAddr_t fo24_0, List.map, cellsOf_link]
    rw [mwp_fieldAddr_b (by simp (disch := first | omega | decide) only [go_sem, f0, f1, cellsOf_link]; rfl)]
    exact hK _
  apply aops_step (by decide) rfl
  · intro K hK
    simp (disch := first | omega | decide) only [go_sem, f0, f1, act_load_t ti3, List.map, cellsOf_link]
    rw [mwp_load_b1 (by simp (disch := first | omega | decide) only [go_sem, f0, f1, cellsOf_link]; rfl) (by rfl)]
    exact hK _
  iterate 2 (apply aops_step (by decide) rfl; · (intro K hK; simp (disch := first | omega | decide) only [go_sem, f0, f1, cellsOf_link]; exact hK _))
  apply aops_merge' (by decide) (by exact want_of (d := 11) rfl (by simp (disch := first | omega | decide) only [go_sem, f0, f1, opn_cond, cellsOf_link]; rfl))
  · intro hc K hK
    have hc2 := hc
    simp only [beq_iff_eq, decide_eq_true_eq, decide_eq_false_iff_not, Bool.or_eq_true, Bool.and_eq_true, Bool.or_eq_false_iff, Bool.and_eq_false_iff] at hc2
    simp (disch := first | omega | decide) only [go_sem, f0, f1, opn_cond, hc, if_true, act_fieldAddr_t fo24_1, cellsOf_link]
    rw [mwp_fieldAddr_b (by simp (disch := first | omega | decide) only [go_sem, f0, f1, opn_cond, hc, if_true, cellsOf_link]; rfl)]
    exact hK _
  apply aops_merge' (by decide) (by exact want_of (d := 11) rfl (by simp (disch := first | omega | decide) only [go_sem, f0, f1, opn_cond, cellsOf_link]; rfl))
  · intro hc K hK
    have hc2 := hc
    simp only [beq_iff_eq, decide_eq_true_eq, decide_eq_false_iff_not, Bool.or_eq_true, Bool.and_eq_true, Bool.or_eq_false_iff, Bool.and_eq_false_iff] at hc2
    simp (disch := first | omega | decide) only [go_sem, f0, f1, opn_cond, hc, if_true, act_load_t ti3, cellsOf_link]
    rw [mwp_load_b1 (by simp (disch := first | omega | decide) only [go_sem, f0, f1, opn_cond, hc, if_true, cellsOf_link]; rfl) (by rfl)]
    exact hK _
  apply aops_merge' (by decide) (by exact want_of (d := 11) rfl (by simp (disch := first | omega | decide) only [go_sem, f0, f1, opn_cond, cellsOf_link]; rfl))
  · intro hc K hK
    have hc2 := hc
    simp only [beq_iff_eq, decide_eq_true_eq, decide_eq_false_iff_not, Bool.or_eq_true, Bool.and_eq_true, Bool.or_eq_false_iff, Bool.and_eq_false_iff] at hc2
    simp (disch := first | omega | decide) only [go_sem, f0, f1, opn_cond, hc, if_true, act_fieldAddr_t fo24_1, cellsOf_link]
    rw [mwp_fieldAddr_b (by simp (disch := first | omega | decide) only [go_sem, f0, f1, opn_cond, hc, if_true, cellsOf_link]; rfl)]
    exact hK _
  apply aops_merge' (by decide) (by exact want_of (d := 11) rfl (by simp (disch := first | omega | decide) only [go_sem, f0, f1, opn_cond, cellsOf_link]; rfl))
  · intro hc K hK
    have hc2 := hc
    simp only [beq_iff_eq, decide_eq_true_eq, decide_eq_false_iff_not, Bool.or_eq_true, Bool.and_eq_true, Bool.or_eq_false_iff, Bool.and_eq_false_iff] at hc2
    simp (disch := first | omega | decide) only [go_sem, f0, f1, opn_cond, hc, if_true, act_load_t ti3, cellsOf_link]
    rw [mwp_load_b1 (by simp (disch := first | omega | decide) only [go_sem, f0, f1, opn_cond, hc, if_true, cellsOf_link]; rfl) (by rfl)]
    exact hK _
  apply aops_merge' (by decide) (by exact want_of (d := 11) rfl (by simp (disch := first | omega | decide) only [go_sem, f0, f1, opn_cond, cellsOf_link]; rfl))
  · intro hc K hK
    have hc2 := hc
    simp only [beq_iff_eq, decide_eq_true_eq, decide_eq_false_iff_not, Bool.or_eq_true, Bool.and_eq_true, Bool.or_eq_false_iff, Bool.and_eq_false_iff] at hc2
    simp (disch := first | omega | decide) only [go_sem, f0, f1, opn_cond, hc, if_true, cellsOf_link]
    exact hK _
  iterate 2 (apply aops_step (by decide) rfl; · (intro K hK; simp (disch := first | omega | decide) only [go_sem, f0, f1, cellsOf_link]; exact hK _))
  apply aops_merge' (by decide) (by exact want_of (d := 18) rfl (by simp (disch := first | omega | decide) only [go_sem, f0, f1, opn_cond, cellsOf_link]; rfl))
  · intro hc K hK
    have hc2 := hc
    simp only [beq_iff_eq, decide_eq_true_eq, decide_eq_false_iff_not, Bool.or_eq_true, Bool.and_eq_true, Bool.or_eq_false_iff, Bool.and_eq_false_iff] at hc2
    simp (disch := first | omega | decide) only [go_sem, f0, f1, opn_cond, hc, if_true, act_fieldAddr_t fo24_2, cellsOf_link]
    rw [mwp_fieldAddr_b (by simp (disch := first | omega | decide) only [go_sem, f0, f1, opn_cond, hc, if_true, cellsOf_link]; rfl)]
    exact hK _
  apply aops_merge' (by decide) (by exact want_of (d := 18) rfl (by simp (disch := first | omega | decide) only [go_sem, f0, f1, opn_cond, cellsOf_link]; rfl))
  · intro hc K hK
    have hc2 := hc
    simp only [beq_iff_eq, decide_eq_true_eq, decide_eq_false_iff_not, Bool.or_eq_true, Bool.and_eq_true, Bool.or_eq_false_iff, Bool.and_eq_false_iff] at hc2
    simp (disch := first | omega | decide) only [go_sem, f0, f1, opn_cond, hc, if_true, act_load_t ti22, cellsOf_link]
    rw [mwp_load_b1 (by simp (disch := first | omega | decide) only [go_sem, f0, f1, opn_cond, hc, if_true, cellsOf_link]; rfl) (by rfl)]
    exact hK _
  apply aops_merge' (by decide) (by exact want_of (d := 18) rfl (by simp (disch := first | omega | decide) only [go_sem, f0, f1, opn_cond, cellsOf_link]; rfl))
  · intro hc K hK
    have hc2 := hc
    simp only [beq_iff_eq, decide_eq_true_eq, decide_eq_false_iff_not, Bool.or_eq_true, Bool.and_eq_true, Bool.or_eq_false_iff, Bool.and_eq_false_iff] at hc2
    simp (disch := first | omega | decide) only [go_sem, f0, f1, opn_cond, hc, if_true, List.map, List.length_map, aops_len u22, cellsOf_link]
    exact hK _
  apply aops_merge' (by decide) (by exact want_of (d := 18) rfl (by simp (disch := first | omega | decide) only [go_sem, f0, f1, opn_cond, cellsOf_link]; rfl))
  · intro hc K hK
    have hc2 := hc
    simp only [beq_iff_eq, decide_eq_true_eq, decide_eq_false_iff_not, Bool.or_eq_true, Bool.and_eq_true, Bool.or_eq_false_iff, Bool.and_eq_false_iff] at hc2
    simp (disch := first | omega | decide) only [go_sem, f0, f1, opn_cond, hc, if_true, act_fieldAddr_t fo24_2, cellsOf_link]
    rw [mwp_fieldAddr_b (by simp (disch := first | omega | decide) only [go_sem, f0, f1, opn_cond, hc, if_true, cellsOf_link]; rfl)]
    exact hK _
  apply aops_merge' (by decide) (by exact want_of (d := 18) rfl (by simp (disch := first | omega | decide) only [go_sem, f0, f1, opn_cond, cellsOf_link]; rfl))
  · intro hc K hK
    have hc2 := hc
    simp only [beq_iff_eq, decide_eq_true_eq, decide_eq_false_iff_not, Bool.or_eq_true, Bool.and_eq_true, Bool.or_eq_false_iff, Bool.and_eq_false_iff] at hc2
    simp (disch := first | omega | decide) only [go_sem, f0, f1, opn_cond, hc, if_true, act_load_t ti22, cellsOf_link]
    rw [mwp_load_b1 (by simp (disch := first | omega | decide) only [go_sem, f0, f1, opn_cond, hc, if_true, cellsOf_link]; rfl) (by rfl)]
    exact hK _
  apply aops_merge' (by decide) (by exact want_of (d := 18) rfl (by simp (disch := first | omega | decide) only [go_sem, f0, f1, opn_cond, cellsOf_link]; rfl))
  · intro hc K hK
    have hc2 := hc
    simp only [beq_iff_eq, decide_eq_true_eq, decide_eq_false_iff_not, Bool.or_eq_true, Bool.and_eq_true, Bool.or_eq_false_iff, Bool.and_eq_false_iff] at hc2
    simp (disch := first | omega | decide) only [go_sem, f0, f1, opn_cond, hc, if_true, List.map, List.length_map, aops_len u22, cellsOf_link]
    exact hK _
  apply aops_merge' (by decide) (by exact want_of (d := 18) rfl (by simp (disch := first | omega | decide) only [go_sem, f0, f1, opn_cond, cellsOf_link]; rfl))
  · intro hc K hK
    have hc2 := hc
    simp only [beq_iff_eq, decide_eq_true_eq, decide_eq_false_iff_not, Bool.or_eq_true, Bool.and_eq_true, Bool.or_eq_false_iff, Bool.and_eq_false_iff] at hc2
    simp (disch := first | omega | decide) only [go_sem, f0, f1, opn_cond, hc, if_true, cellsOf_link]
    exact hK _
  iterate 1 (apply aops_step (by decide) rfl; · (intro K hK; simp (disch := first | omega | decide) only [go_sem, f0, f1, cellsOf_link]; exact hK _))
  refine aops_nil ?_
  apply AW.cond
  · simp (disch := first | omega | decide) only [go_sem, f0, f1, cellsOf_link]; rfl
  case ht =>
    intro hb
    try simp only [Bool.or_eq_true, Bool.and_eq_true, Bool.or_eq_false_iff, Bool.and_eq_false_iff, decide_eq_true_eq, decide_eq_false_iff_not] at hb
    have hbt26 := hb
    refine AW.seq ?_
    refine AW.region (cfg := cfg) ?_
    iterate 1 (apply aops_step (by decide) rfl; · (intro K hK; simp (disch := first | omega | decide) only [go_sem, f0, f1, cellsOf_link]; exact hK _))
    refine aops_nil ?_
    refine AW.ret ?_
    refine ⟨.inr rfl, ?_⟩
    refine leaves_tmp1 4 rfl ?_ (by exact hG)
    simp (disch := first | omega | decide) only [go_sem, f0, f1, cellsOf_link]
    all_goals (rw [same_no (by simpa using hbt26)]; done)
  case hf =>
    intro hb
    try simp only [Bool.or_eq_true, Bool.and_eq_true, Bool.or_eq_false_iff, Bool.and_eq_false_iff, decide_eq_true_eq, decide_eq_false_iff_not] at hb
    have hbt26 := hb
    refine AW.skip ?_
    refine AW.seq ?_
    refine AW.seq ?_
    refine AW.region (cfg := cfg) ?_
    iterate 1 (apply aops_step (by decide) rfl; · (intro K hK; simp (disch := first | omega | decide) only [go_sem, f0, f1, cellsOf_link]; exact hK _))
    refine aops_nil ?_
    refine AW.block ?_
    refine AW.forN (fun k σ => ∃ s m, σ = ⟨45, s, m⟩ ∧ s 2 = .lptr (.tmp 2 0) (m.objs (.tmp 2 0)).1 0 ∧ (m.objs (.tmp 2 0)).2 = .box [.v (i64 x.o), .v (i64 x.s), .v (.sl 2 x.nil (x.ls.map linkA))] ∧ s 3 = .lptr (.tmp 3 0) (m.objs (.tmp 3 0)).1 0 ∧ (m.objs (.tmp 3 0)).2 = .box [.v (i64 y.o), .v (i64 y.s), .v (.sl 2 y.nil (y.ls.map linkA))] ∧ s 5 = .v (i64 (k : Int)) ∧ ((x.o = y.o ∧ x.s = y.s) ∧ (x.ls.length : Int) = (y.ls.length : Int)) ∧ (x.ls.take k = y.ls.take k) ∧ m.G = []) (x.ls.length) ?_ ?_ ?_
    · refine ⟨_, _, rfl, ?_, ?_, ?_, ?_, ?_, ?_, ?_, (by exact hG)⟩ <;> try simp (disch := first | omega | decide) only [go_sem, f0, f1, cellsOf_link]
      all_goals first | rfl | (simpa using hbt26)
    · clear f0 f1 hG
      rintro k σ hk ⟨s, m, rfl, f2, o2, f3, o3, f5, mo0, mo1, hG⟩
      obtain ⟨g2, o2⟩ : ∃ g, m.objs (.tmp 2 0) = (g, .box [.v (i64 x.o), .v (i64 x.s), .v (.sl 2 x.nil (x.ls.map linkA))]) := ⟨_, Prod.ext rfl o2⟩
      rw [o2] at f2
      obtain ⟨g3, o3⟩ : ∃ g, m.objs (.tmp 3 0) = (g, .box [.v (i64 y.o), .v (i64 y.s), .v (.sl 2 y.nil (y.ls.map linkA))]) := ⟨_, Prod.ext rfl o3⟩
      rw [o3] at f3
      refine AW.seq ?_
      refine AW.seq ?_
      refine AW.region (cfg := cfg) ?_
      iterate 1 (apply aops_step (by decide) rfl; · (intro K hK; simp (disch := first | omega | decide) only [go_sem, f2, f3, f5, o2, o3, cellsOf_link]; exact hK _))
      apply aops_step (by decide) rfl
      · intro K hK
        simp (disch := first | omega | decide) only [go_sem, f2, f3, f5, o2, o3, act_fieldAddr_t fo24_2, List.map, cellsOf_link]
        rw [mwp_fieldAddr_b (by simp (disch := first | omega | decide) only [go_sem, f2, f3, f5, o2, o3, cellsOf_link]; rfl)]
        exact hK _
      apply aops_step (by decide) rfl
      · intro K hK
        simp (disch := first | omega | decide) only [go_sem, f2, f3, f5, o2, o3, act_load_t ti22, List.map, cellsOf_link]
        rw [mwp_load_b1 (by simp (disch := first | omega | decide) only [go_sem, f2, f3, f5, o2, o3, cellsOf_link]; rfl) (by rfl)]
        exact hK _
      iterate 2 (apply aops_step (by decide) rfl; · (intro K hK; simp (disch := first | omega | decide) only [go_sem, f2, f3, f5, o2, o3, List.map, List.length_map, aops_len u22, cellsOf_link]; exact hK _))
      refine aops_nil ?_
      apply AW.cond
      · simp (disch := first | omega | decide) only [go_sem, f2, f3, f5, o2, o3, cellsOf_link]; rfl
      case hf => intro hb; (simp at hb; omega)
      case ht =>
      intro hb
      have hbt31 := hb
      refine AW.skip ?_
      refine AW.seq ?_
      refine AW.block ?_
      refine AW.seq ?_
      have hky : k < y.ls.length := by omega
      refine AW.draw (cfg := cfg) (by kernel_rfl) (by kernel_rfl) (by kernel_rfl) ?_
      apply adraw_step rfl
      · intro K hK
        simp (disch := first | omega | decide) only [go_sem, f2, f3, f5, o2, o3, act_fieldAddr_t fo24_2, List.map, cellsOf_link]
        rw [mwp_fieldAddr_b (by simp (disch := first | omega | decide) only [go_sem, f2, f3, f5, o2, o3, cellsOf_link]; rfl)]
        exact hK
      apply adraw_step rfl
      · intro K hK
        simp (disch := first | omega | decide) only [go_sem, f2, f3, f5, o2, o3, act_load_t ti22, List.map, cellsOf_link]
        rw [mwp_load_b1 (by simp (disch := first | omega | decide) only [go_sem, f2, f3, f5, o2, o3, cellsOf_link]; rfl) (by rfl)]
        exact hK
      iterate 1 (apply adraw_step rfl; · (intro K hK; simp (disch := first | omega | decide) only [go_sem, f2, f3, f5, o2, o3, cellsOf_link]; exact hK))
      apply adraw_step rfl
      · intro K hK
        simp (disch := first | omega | decide) only [go_sem, f2, f3, f5, o2, o3, act_indexAddr_s u22 ti94, List.map, cellsOf_link]
        skip
        exact hK
      apply adraw_step rfl
      · intro K hK
        simp (disch := first | omega | decide) only [go_sem, f2, f3, f5, o2, o3, act_load_t ti94, List.map, cellsOf_link]
        rw [mwp_load_is (by simp)]
        exact hK
      apply adraw_step rfl
      · intro K hK
        simp (disch := first | omega | decide) only [go_sem, f2, f3, f5, o2, o3, act_fieldAddr_t fo24_2, List.map, cellsOf_link]
        rw [mwp_fieldAddr_b (by simp (disch := first | omega | decide) only [go_sem, f2, f3, f5, o2, o3, cellsOf_link]; rfl)]
        exact hK
      apply adraw_step rfl
      · intro K hK
        simp (disch := first | omega | decide) only [go_sem, f2, f3, f5, o2, o3, act_load_t ti22, List.map, cellsOf_link]
        rw [mwp_load_b1 (by simp (disch := first | omega | decide) only [go_sem, f2, f3, f5, o2, o3, cellsOf_link]; rfl) (by rfl)]
        exact hK
      iterate 1 (apply adraw_step rfl; · (intro K hK; simp (disch := first | omega | decide) only [go_sem, f2, f3, f5, o2, o3, cellsOf_link]; exact hK))
      apply adraw_step rfl
      · intro K hK
        simp (disch := first | omega | decide) only [go_sem, f2, f3, f5, o2, o3, act_indexAddr_s u22 ti94, List.map, cellsOf_link]
        skip
        exact hK
      apply adraw_step rfl
      · intro K hK
        simp (disch := first | omega | decide) only [go_sem, f2, f3, f5, o2, o3, act_load_t ti94, List.map, cellsOf_link]
        rw [mwp_load_is (by simp)]
        exact hK
      iterate 1 (apply adraw_step rfl; · (intro K hK; simp (disch := first | omega | decide) only [go_sem, f2, f3, f5, o2, o3, bin_neq_s us94 fl94 eg94, cellsOf_link]; exact hK))
      refine adraw_nil (by kernel_rfl) ?_
      apply AW.cond
      · simp (disch := first | omega | decide) only [go_sem, f2, f3, f5, o2, o3, cellsOf_link]; rfl
      case ht =>
        intro hb
        try simp only [Bool.or_eq_true, Bool.and_eq_true, Bool.or_eq_false_iff, Bool.and_eq_false_iff, decide_eq_true_eq, decide_eq_false_iff_not] at hb
        have hbt44 := hb
        refine AW.seq ?_
        refine AW.region (cfg := cfg) ?_
        iterate 1 (apply aops_step (by decide) rfl; · (intro K hK; simp (disch := first | omega | decide) only [go_sem, f2, f3, f5, o2, o3, cellsOf_link]; exact hK _))
        refine aops_nil ?_
        refine AW.ret ?_
        refine ⟨.inr rfl, ?_⟩
        refine leaves_tmp1 4 rfl ?_ (by exact hG)
        simp (disch := first | omega | decide) only [go_sem, f2, f3, f5, o2, o3, cellsOf_link]
        all_goals (rw [same_at (by omega) (by omega) (fun e => link_ne hb e)]; done)
      case hf =>
        intro hb
        try simp only [Bool.or_eq_true, Bool.and_eq_true, Bool.or_eq_false_iff, Bool.and_eq_false_iff, decide_eq_true_eq, decide_eq_false_iff_not] at hb
        have hbt44 := hb
        refine AW.skip ?_
        refine AW.region (cfg := cfg) ?_
        iterate 3 (apply aops_step (by decide) rfl; · (intro K hK; simp (disch := first | omega | decide) only [go_sem, f2, f3, f5, o2, o3, cellsOf_link]; exact hK _))
        refine aops_nil ?_
        refine ⟨_, _, rfl, ?_, ?_, ?_, ?_, ?_, ?_, ?_, (by exact hG)⟩ <;> try simp (disch := first | omega | decide) only [go_sem, f2, f3, f5, o2, o3, cellsOf_link]
        all_goals first | rfl | assumption | skip
        all_goals (rw [List.take_succ_eq_append_getElem (by omega), List.take_succ_eq_append_getElem (by omega), mo1]; congr 2; exact link_eq hb)
    · clear f0 f1 hG
      rintro σ ⟨s, m, rfl, f2, o2, f3, o3, f5, mo0, mo1, hG⟩
      obtain ⟨g2, o2⟩ : ∃ g, m.objs (.tmp 2 0) = (g, .box [.v (i64 x.o), .v (i64 x.s), .v (.sl 2 x.nil (x.ls.map linkA))]) := ⟨_, Prod.ext rfl o2⟩
      rw [o2] at f2
      obtain ⟨g3, o3⟩ : ∃ g, m.objs (.tmp 3 0) = (g, .box [.v (i64 y.o), .v (i64 y.s), .v (.sl 2 y.nil (y.ls.map linkA))]) := ⟨_, Prod.ext rfl o3⟩
      rw [o3] at f3
      refine AW.seq ?_
      refine AW.seq ?_
      refine AW.region (cfg := cfg) ?_
      iterate 1 (apply aops_step (by decide) rfl; · (intro K hK; simp (disch := first | omega | decide) only [go_sem, f2, f3, f5, o2, o3, cellsOf_link]; exact hK _))
      apply aops_step (by decide) rfl
      · intro K hK
        simp (disch := first | omega | decide) only [go_sem, f2, f3, f5, o2, o3, act_fieldAddr_t fo24_2, List.map, cellsOf_link]
        rw [mwp_fieldAddr_b (by simp (disch := first | omega | decide) only [go_sem, f2, f3, f5, o2, o3, cellsOf_link]; rfl)]
        exact hK _
      apply aops_step (by decide) rfl
      · intro K hK
        simp (disch := first | omega | decide) only [go_sem, f2, f3, f5, o2, o3, act_load_t ti22, List.map, cellsOf_link]
        rw [mwp_load_b1 (by simp (disch := first | omega | decide) only [go_sem, f2, f3, f5, o2, o3, cellsOf_link]; rfl) (by rfl)]
        exact hK _
      iterate 2 (apply aops_step (by decide) rfl; · (intro K hK; simp (disch := first | omega | decide) only [go_sem, f2, f3, f5, o2, o3, List.map, List.length_map, aops_len u22, cellsOf_link]; exact hK _))
      refine aops_nil ?_
      apply AW.cond
      · simp (disch := first | omega | decide) only [go_sem, f2, f3, f5, o2, o3, cellsOf_link]; rfl
      case ht => intro hb; (simp at hb; done)
      case hf =>
      intro hb
      have hbt31 := hb
      refine AW.exit ?_
      refine AW.seq ?_
      refine AW.region (cfg := cfg) ?_
      iterate 1 (apply aops_step (by decide) rfl; · (intro K hK; simp (disch := first | omega | decide) only [go_sem, f2, f3, f5, o2, o3, cellsOf_link]; exact hK _))
      refine aops_nil ?_
      refine AW.ret ?_
      refine ⟨.inr rfl, ?_⟩
      refine leaves_tmp1 4 rfl ?_ (by exact hG)
      simp (disch := first | omega | decide) only [go_sem, f2, f3, f5, o2, o3, cellsOf_link]
      all_goals (rw [same_is mo0 mo1 rfl]; done)

set_option maxHeartbeats 4000000 in
set_option maxRecDepth 100000 in
theorem good_Light (x : Lsa) (hx : x.ls.length ≤ 9223372036854775807) : Good Try.prog 15 [(lsaA x, false)] [] [(.b (decide ((x.ls.length : Int) ≤ 40)), false)] [] := by
  refine good_of_body2 7 Try.func15 rfl rfl rfl (by simp) ?_
  intro s m ha hr hv hG
  have f0 : s 0 = .v (.agg [i64 x.o, i64 x.s, .sl 2 x.nil (x.ls.map linkA)]) := ha 0 _ rfl
  clear ha
  refine AW.seq ?_
  refine AW.region (cfg := cfg) ?_
  apply aops_step (by decide) rfl
  · intro K hK
    simp (disch := first | omega | decide) only [go_sem, f0, act_box_t ti24, List.map, cellsOf_link]
    rw [settleL_vish _ _ (by rfl)]
    simp (disch := first | omega | decide) only [go_sem, f0, cellsL, List.map, List.length_cons, List.length_nil, Nat.reduceAdd, if_true, cellsOf_link]
    exact hK _
  iterate 1 (apply aops_step (by decide) rfl; · (intro K hK; simp (disch := first | omega | decide) only [go_sem, f0, cellsOf_link]; exact hK _))
  refine aops_nil ?_
  refine AW.seq ?_
  refine AW.region (cfg := cfg) ?_
  apply aops_step (by decide) rfl
  · intro K hK
    simp (disch := first | omega | decide) only [go_sem, f0, act_fieldAddr_t fo24_2, List.map, cellsOf_link]
    rw [mwp_fieldAddr_b (by simp (disch := first | omega | decide) only [go_sem, f0, cellsOf_link]; rfl)]
    exact hK _
  apply aops_step (by decide) rfl
  · intro K hK
    simp (disch := first | omega | decide) only [go_sem, f0, act_load_t ti22, List.map, cellsOf_link]
    rw [mwp_load_b1 (by simp (disch := first | omega | decide) only [go_sem, f0, cellsOf_link]; rfl) (by rfl)]
    exact hK _
  iterate 3 (apply aops_step (by decide) rfl; · (intro K hK; simp (disch := first | omega | decide) only [go_sem, f0, List.map, List.length_map, aops_len u22, cellsOf_link]; exact hK _))
  refine aops_nil ?_
  refine AW.ret ?_
  refine ⟨.inr rfl, ?_⟩
  refine leaves_tmp1 2 rfl ?_ (by exact hG)
  simp (disch := first | omega | decide) only [go_sem, f0, cellsOf_link]
  all_goals first | done | rfl | trace_state

set_option maxHeartbeats 4000000 in
set_option maxRecDepth 100000 in
theorem good_Newer (x : Lsa) (hx : x.ls.length ≤ 9223372036854775807)(y : Lsa) (hy : y.ls.length ≤ 9223372036854775807) : Good Try.prog 28 [(lsaA x, false), (lsaA y, false)] [] [(.b (newer x y), false)] [] := by
  refine good_of_body2 17 Try.func28 rfl rfl rfl (by simp) ?_
  intro s m ha hr hv hG
  have f0 : s 0 = .v (.agg [i64 x.o, i64 x.s, .sl 2 x.nil (x.ls.map linkA)]) := ha 0 _ rfl
  have f1 : s 1 = .v (.agg [i64 y.o, i64 y.s, .sl 2 y.nil (y.ls.map linkA)]) := ha 1 _ rfl
  clear ha
  refine AW.seq ?_
  refine AW.region (cfg := cfg) ?_
  apply aops_step (by decide) rfl
  · intro K hK
    simp (disch := first | omega | decide) only [go_sem, f0, f1, act_box_t ti24, List.map, cellsOf_link]
    rw [settleL_vish _ _ (by rfl)]
    simp (disch := first | omega | decide) only [go_sem, f0, f1, cellsL, List.map, List.length_cons, List.length_nil, Nat.reduceAdd, if_true, cellsOf_link]
    exact hK _
  apply aops_step (by decide) rfl
  · intro K hK
    simp (disch := first | omega | decide) only [go_sem, f0, f1, act_box_t ti24, List.map, cellsOf_link]
    rw [settleL_vish _ _ (by rfl)]
    simp (disch := first | omega | decide) only [go_sem, f0, f1, cellsL, List.map, List.length_cons, List.length_nil, Nat.reduceAdd, if_true, cellsOf_link]
    exact hK _
  iterate 1 (apply aops_step (by decide) rfl; · (intro K hK; simp (disch := first | omega | decide) only [go_sem, f0, f1, cellsOf_link]; exact hK _))
  refine aops_nil ?_
  refine AW.seq ?_
  refine AW.region (cfg := cfg) ?_
  apply aops_step (by decide) rfl
  · intro K hK
    simp (disch := first | omega | decide) only [go_sem, f0, f1, act_fieldAddr_t fo24_0, List.map, cellsOf_link]
    rw [mwp_fieldAddr_b (by simp (disch := first | omega | decide) only [go_sem, f0, f1, cellsOf_link]; rfl)]
    exact hK _
  apply aops_step (by decide) rfl
  · intro K hK
    simp (disch := first | omega | decide) only [go_sem, f0, f1, act_load_t ti3, List.map, cellsOf_link]
    rw [mwp_load_b1 (by simp (disch := first | omega | decide) only [go_sem, f0, f1, cellsOf_link]; rfl) (by rfl)]
    exact hK _
  apply aops_step (by decide) rfl
  · intro K hK
    simp (disch := first | omega | decide) only [go_sem, f0, f1, act_fieldAddr_t fo24_0, List.map, cellsOf_link]
    rw [mwp_fieldAddr_b (by simp (disch := first | omega | decide) only [go_sem, f0, f1, cellsOf_link]; rfl)]
    exact hK _
  apply aops_step (by decide) rfl
  · intro K hK
    simp (disch := first | omega | decide) only [go_sem, f0, f1, act_load_t ti3, List.map, cellsOf_link]
    rw [mwp_load_b1 (by simp (disch := first | omega | decide) only [go_sem, f0, f1, cellsOf_link]; rfl) (by rfl)]
    exact hK _
  iterate 2 (apply aops_step (by decide) rfl; · (intro K hK; simp (disch := first | omega | decide) only [go_sem, f0, f1, cellsOf_link]; exact hK _))
  apply aops_merge' (by decide) (by exact want_of (d := 10) rfl (by simp (disch := first | omega | decide) only [go_sem, f0, f1, opn_cond, cellsOf_link]; rfl))
  · intro hc K hK
    have hc2 := hc
    simp only [beq_iff_eq, decide_eq_true_eq, decide_eq_false_iff_not, Bool.or_eq_true, Bool.and_eq_true, Bool.or_eq_false_iff, Bool.and_eq_false_iff] at hc2
    simp (disch := first | omega | decide) only [go_sem, f0, f1, opn_cond, hc, if_true, act_fieldAddr_t fo24_1, cellsOf_link]
    rw [mwp_fieldAddr_b (by simp (disch := first | omega | decide) only [go_sem, f0, f1, opn_cond, hc, if_true, cellsOf_link]; rfl)]
    exact hK _
  apply aops_merge' (by decide) (by exact want_of (d := 10) rfl (by simp (disch := first | omega | decide) only [go_sem, f0, f1, opn_cond, cellsOf_link]; rfl))
  · intro hc K hK
    have hc2 := hc
    simp only [beq_iff_eq, decide_eq_true_eq, decide_eq_false_iff_not, Bool.or_eq_true, Bool.and_eq_true, Bool.or_eq_false_iff, Bool.and_eq_false_iff] at hc2
    simp (disch := first | omega | decide) only [go_sem, f0, f1, opn_cond, hc, if_true, act_load_t ti3, cellsOf_link]
    rw [mwp_load_b1 (by simp (disch := first | omega | decide) only [go_sem, f0, f1, opn_cond, hc, if_true, cellsOf_link]; rfl) (by rfl)]
    exact hK _
  apply aops_merge' (by decide) (by exact want_of (d := 10) rfl (by simp (disch := first | omega | decide) only [go_sem, f0, f1, opn_cond, cellsOf_link]; rfl))
  · intro hc K hK
    have hc2 := hc
    simp only [beq_iff_eq, decide_eq_true_eq, decide_eq_false_iff_not, Bool.or_eq_true, Bool.and_eq_true, Bool.or_eq_false_iff, Bool.and_eq_false_iff] at hc2
    simp (disch := first | omega | decide) only [go_sem, f0, f1, opn_cond, hc, if_true, act_fieldAddr_t fo24_1, cellsOf_link]
    rw [mwp_fieldAddr_b (by simp (disch := first | omega | decide) only [go_sem, f0, f1, opn_cond, hc, if_true, cellsOf_link]; rfl)]
    exact hK _
  apply aops_merge' (by decide) (by exact want_of (d := 10) rfl (by simp (disch := first | omega | decide) only [go_sem, f0, f1, opn_cond, cellsOf_link]; rfl))
  · intro hc K hK
    have hc2 := hc
    simp only [beq_iff_eq, decide_eq_true_eq, decide_eq_false_iff_not, Bool.or_eq_true, Bool.and_eq_true, Bool.or_eq_false_iff, Bool.and_eq_false_iff] at hc2
    simp (disch := first | omega | decide) only [go_sem, f0, f1, opn_cond, hc, if_true, act_load_t ti3, cellsOf_link]
    rw [mwp_load_b1 (by simp (disch := first | omega | decide) only [go_sem, f0, f1, opn_cond, hc, if_true, cellsOf_link]; rfl) (by rfl)]
    exact hK _
  apply aops_merge' (by decide) (by exact want_of (d := 10) rfl (by simp (disch := first | omega | decide) only [go_sem, f0, f1, opn_cond, cellsOf_link]; rfl))
  · intro hc K hK
    have hc2 := hc
    simp only [beq_iff_eq, decide_eq_true_eq, decide_eq_false_iff_not, Bool.or_eq_true, Bool.and_eq_true, Bool.or_eq_false_iff, Bool.and_eq_false_iff] at hc2
    simp (disch := first | omega | decide) only [go_sem, f0, f1, opn_cond, hc, if_true, cellsOf_link]
    exact hK _
  iterate 2 (apply aops_step (by decide) rfl; · (intro K hK; simp (disch := first | omega | decide) only [go_sem, f0, f1, cellsOf_link]; exact hK _))
  refine aops_nil ?_
  refine AW.ret ?_
  refine ⟨.inr rfl, ?_⟩
  refine leaves_tmp1 4 rfl ?_ (by exact hG)
  simp (disch := first | omega | decide) only [go_sem, f0, f1, cellsOf_link]
  all_goals rfl

set_option maxHeartbeats 4000000 in
set_option maxRecDepth 100000 in
theorem good_Same (x : Lsa) (hx : x.ls.length ≤ 9223372036854775807)(y : Lsa) (hy : y.ls.length ≤ 9223372036854775807) : Good Try.prog 29 [(lsaA x, false), (lsaA y, false)] [] [(.b (lsaEq x y), false)] [] := by
  refine good_of_body2 24 Try.func29 rfl rfl rfl (by simp) ?_
  intro s m ha hr hv hG
  have f0 : s 0 = .v (.agg [i64 x.o, i64 x.s, .sl 2 x.nil (x.ls.map linkA)]) := ha 0 _ rfl
  have f1 : s 1 = .v (.agg [i64 y.o, i64 y.s, .sl 2 y.nil (y.ls.map linkA)]) := ha 1 _ rfl
  clear ha
  refine AW.seq ?_
  refine AW.region (cfg := cfg) ?_
  apply aops_step (by decide) rfl
  · intro K hK
    simp (disch := first | omega | decide) only [go_sem, f0, f1, act_box_t ti24, List.map, cellsOf_link]
    rw [settleL_vish _ _ (by rfl)]
    simp (disch := first | omega | decide) only [go_sem, f0, f1, cellsL, List.map, List.length_cons, List.length_nil, Nat.reduceAdd, if_true, cellsOf_link]
    exact hK _
  apply aops_step (by decide) rfl
  · intro K hK
    simp (disch := first | omega | decide) only [go_sem, f0, f1, act_box_t ti24, List.map, cellsOf_link]
    rw [settleL_vish _ _ (by rfl)]
    simp (disch := first | omega | decide) only [go_sem, f0, f1, cellsL, List.map, List.length_cons, List.length_nil, Nat.reduceAdd, if_true, cellsOf_link]
    exact hK _
  iterate 1 (apply aops_step (by decide) rfl; · (intro K hK; simp (disch := first | omega | decide) only [go_sem, f0, f1, cellsOf_link]; exact hK _))
  refine aops_nil ?_
  refine AW.seq ?_
  refine AW.region (cfg := cfg) ?_
  apply aops_step (by decide) rfl
  · intro K hK
    simp (disch := first | omega | decide) only [go_sem, f0, f1, act_fieldAddr_t fo24_0, List.map, cellsOf_link]
    rw [mwp_fieldAddr_b (by simp (disch := first | omega | decide) only [go_sem, f0, f1, cellsOf_link]; rfl)]
    exact hK _
  apply aops_step (by decide) rfl
  · intro K hK
    simp (disch := first | omega | decide) only [go_sem, f0, f1, act_load_t ti3, List.map, cellsOf_link]
    rw [mwp_load_b1 (by simp (disch := first | omega | decide) only [go_sem, f0, f1, cellsOf_link]; rfl) (by rfl)]
    exact hK _
  apply aops_step (by decide) rfl
  · intro K hK
    simp (disch := first | omega | decide) only [go_sem, f0, f1, act_fieldAddr_t fo24_0, List.map, cellsOf_link]
    rw [mwp_fieldAddr_b (by simp (disch := first | omega | decide) only [go_sem, f0, f1, cellsOf_link]; rfl)]
    exact hK _
  apply aops_step (by decide) rfl
  · intro K hK
    simp (disch := first | omega | decide) only [go_sem, f0, f1, act_load_t ti3, List.map, cellsOf_link]
    rw [mwp_load_b1 (by simp (disch := first | omega | decide) only [go_sem, f0, f1, cellsOf_link]; rfl) (by rfl)]
    exact hK _
  iterate 2 (apply aops_step (by decide) rfl; · (intro K hK; simp (disch := first | omega | decide) only [go_sem, f0, f1, cellsOf_link]; exact hK _))
  apply aops_merge' (by decide) (by exact want_of (d := 10) rfl (by simp (disch := first | omega | decide) only [go_sem, f0, f1, opn_cond, cellsOf_link]; rfl))
  · intro hc K hK
    have hc2 := hc
    simp only [beq_iff_eq, decide_eq_true_eq, decide_eq_false_iff_not, Bool.or_eq_true, Bool.and_eq_true, Bool.or_eq_false_iff, Bool.and_eq_false_iff] at hc2
    simp (disch := first | omega | decide) only [go_sem, f0, f1, opn_cond, hc, if_true, act_fieldAddr_t fo24_1, cellsOf_link]
    rw [mwp_fieldAddr_b (by simp (disch := first | omega | decide) only [go_sem, f0, f1, opn_cond, hc, if_true, cellsOf_link]; rfl)]
    exact hK _
  apply aops_merge' (by decide) (by exact want_of (d := 10) rfl (by simp (disch := first | omega | decide) only [go_sem, f0, f1, opn_cond, cellsOf_link]; rfl))
  · intro hc K hK
    have hc2 := hc
    simp only [beq_iff_eq, decide_eq_true_eq, decide_eq_false_iff_not, Bool.or_eq_true, Bool.and_eq_true, Bool.or_eq_false_iff, Bool.and_eq_false_iff] at hc2
    simp (disch := first | omega | decide) only [go_sem, f0, f1, opn_cond, hc, if_true, act_load_t ti3, cellsOf_link]
    rw [mwp_load_b1 (by simp (disch := first | omega | decide) only [go_sem, f0, f1, opn_cond, hc, if_true, cellsOf_link]; rfl) (by rfl)]
    exact hK _
  apply aops_merge' (by decide) (by exact want_of (d := 10) rfl (by simp (disch := first | omega | decide) only [go_sem, f0, f1, opn_cond, cellsOf_link]; rfl))
  · intro hc K hK
    have hc2 := hc
    simp only [beq_iff_eq, decide_eq_true_eq, decide_eq_false_iff_not, Bool.or_eq_true, Bool.and_eq_true, Bool.or_eq_false_iff, Bool.and_eq_false_iff] at hc2
    simp (disch := first | omega | decide) only [go_sem, f0, f1, opn_cond, hc, if_true, act_fieldAddr_t fo24_1, cellsOf_link]
    rw [mwp_fieldAddr_b (by simp (disch := first | omega | decide) only [go_sem, f0, f1, opn_cond, hc, if_true, cellsOf_link]; rfl)]
    exact hK _
  apply aops_merge' (by decide) (by exact want_of (d := 10) rfl (by simp (disch := first | omega | decide) only [go_sem, f0, f1, opn_cond, cellsOf_link]; rfl))
  · intro hc K hK
    have hc2 := hc
    simp only [beq_iff_eq, decide_eq_true_eq, decide_eq_false_iff_not, Bool.or_eq_true, Bool.and_eq_true, Bool.or_eq_false_iff, Bool.and_eq_false_iff] at hc2
    simp (disch := first | omega | decide) only [go_sem, f0, f1, opn_cond, hc, if_true, act_load_t ti3, cellsOf_link]
    rw [mwp_load_b1 (by simp (disch := first | omega | decide) only [go_sem, f0, f1, opn_cond, hc, if_true, cellsOf_link]; rfl) (by rfl)]
    exact hK _
  apply aops_merge' (by decide) (by exact want_of (d := 10) rfl (by simp (disch := first | omega | decide) only [go_sem, f0, f1, opn_cond, cellsOf_link]; rfl))
  · intro hc K hK
    have hc2 := hc
    simp only [beq_iff_eq, decide_eq_true_eq, decide_eq_false_iff_not, Bool.or_eq_true, Bool.and_eq_true, Bool.or_eq_false_iff, Bool.and_eq_false_iff] at hc2
    simp (disch := first | omega | decide) only [go_sem, f0, f1, opn_cond, hc, if_true, cellsOf_link]
    exact hK _
  iterate 2 (apply aops_step (by decide) rfl; · (intro K hK; simp (disch := first | omega | decide) only [go_sem, f0, f1, cellsOf_link]; exact hK _))
  apply aops_merge' (by decide) (by exact want_of (d := 17) rfl (by simp (disch := first | omega | decide) only [go_sem, f0, f1, opn_cond, cellsOf_link]; rfl))
  · intro hc K hK
    have hc2 := hc
    simp only [beq_iff_eq, decide_eq_true_eq, decide_eq_false_iff_not, Bool.or_eq_true, Bool.and_eq_true, Bool.or_eq_false_iff, Bool.and_eq_false_iff] at hc2
    simp (disch := first | omega | decide) only [go_sem, f0, f1, opn_cond, hc, if_true, act_fieldAddr_t fo24_2, cellsOf_link]
    rw [mwp_fieldAddr_b (by simp (disch := first | omega | decide) only [go_sem, f0, f1, opn_cond, hc, if_true, cellsOf_link]; rfl)]
    exact hK _
  apply aops_merge' (by decide) (by exact want_of (d := 17) rfl (by simp (disch := first | omega | decide) only [go_sem, f0, f1, opn_cond, cellsOf_link]; rfl))
  · intro hc K hK
    have hc2 := hc
    simp only [beq_iff_eq, decide_eq_true_eq, decide_eq_false_iff_not, Bool.or_eq_true, Bool.and_eq_true, Bool.or_eq_false_iff, Bool.and_eq_false_iff] at hc2
    simp (disch := first | omega | decide) only [go_sem, f0, f1, opn_cond, hc, if_true, act_load_t ti22, cellsOf_link]
    rw [mwp_load_b1 (by simp (disch := first | omega | decide) only [go_sem, f0, f1, opn_cond, hc, if_true, cellsOf_link]; rfl) (by rfl)]
    exact hK _
  apply aops_merge' (by decide) (by exact want_of (d := 17) rfl (by simp (disch := first | omega | decide) only [go_sem, f0, f1, opn_cond, cellsOf_link]; rfl))
  · intro hc K hK
    have hc2 := hc
    simp only [beq_iff_eq, decide_eq_true_eq, decide_eq_false_iff_not, Bool.or_eq_true, Bool.and_eq_true, Bool.or_eq_false_iff, Bool.and_eq_false_iff] at hc2
    simp (disch := first | omega | decide) only [go_sem, f0, f1, opn_cond, hc, if_true, act_fieldAddr_t fo24_2, cellsOf_link]
    rw [mwp_fieldAddr_b (by simp (disch := first | omega | decide) only [go_sem, f0, f1, opn_cond, hc, if_true, cellsOf_link]; rfl)]
    exact hK _
  apply aops_merge' (by decide) (by exact want_of (d := 17) rfl (by simp (disch := first | omega | decide) only [go_sem, f0, f1, opn_cond, cellsOf_link]; rfl))
  · intro hc K hK
    have hc2 := hc
    simp only [beq_iff_eq, decide_eq_true_eq, decide_eq_false_iff_not, Bool.or_eq_true, Bool.and_eq_true, Bool.or_eq_false_iff, Bool.and_eq_false_iff] at hc2
    simp (disch := first | omega | decide) only [go_sem, f0, f1, opn_cond, hc, if_true, act_load_t ti22, cellsOf_link]
    rw [mwp_load_b1 (by simp (disch := first | omega | decide) only [go_sem, f0, f1, opn_cond, hc, if_true, cellsOf_link]; rfl) (by rfl)]
    exact hK _
  apply aops_merge' (by decide) (by exact want_of (d := 17) rfl (by simp (disch := first | omega | decide) only [go_sem, f0, f1, opn_cond, cellsOf_link]; rfl))
  · intro hc K hK
    have hc2 := hc
    simp only [beq_iff_eq, decide_eq_true_eq, decide_eq_false_iff_not, Bool.or_eq_true, Bool.and_eq_true, Bool.or_eq_false_iff, Bool.and_eq_false_iff] at hc2
    simp (disch := first | omega | decide) only [go_sem, f0, f1, opn_cond, hc, if_true, act_call, List.map, cellsOf_link]
    apply mwp_call_s rfl rfl rfl
    · intro Q hQ
      (simp (disch := first | omega | decide) only [go_sem, f0, f1, opn_cond, hc, if_true, peekL, reifyL_nil, reifyL_cons, reify_v, cellsOf_link]; (exact hQ))
    · exact good_EqualLink _ _ _ _ (by omega) (by omega)
    · simp [-List.map_take, -List.map_drop, -List.map_append, -List.map_replicate, -List.reduceReplicate, noPtrL, noPtr, noPtrL_bsl, noPtrL_map, sub]
    · rfl
    · exact hK _
  iterate 2 (apply aops_step (by decide) rfl; · (intro K hK; simp (disch := first | omega | decide) only [go_sem, f0, f1, cellsOf_link]; exact hK _))
  refine aops_nil ?_
  refine AW.ret ?_
  refine ⟨.inr rfl, ?_⟩
  refine leaves_tmp1 4 rfl ?_ (by exact hG)
  simp (disch := first | omega | decide) only [go_sem, f0, f1, cellsOf_link]
  all_goals (simp [lsaEq, Bool.and_assoc]; done)

set_option maxHeartbeats 4000000 in
set_option maxRecDepth 100000 in
theorem good_Copy (x : Lsa) (hx : x.ls.length ≤ 9223372036854775807) (hx2 : x.ls.length ≤ 8796093022208) (hz : x.nil = true → x.ls = []) : Good Try.prog 27 [(lsaA x, false)] [] [(lsaA x, false)] [] := by
  refine good_of_body2 8 Try.func27 rfl rfl rfl (by simp) ?_
  intro s m ha hr hv hG
  have f0 : s 0 = .v (.agg [i64 x.o, i64 x.s, .sl 2 x.nil (x.ls.map linkA)]) := ha 0 _ rfl
  clear ha
  refine AW.seq ?_
  refine AW.region (cfg := cfg) ?_
  apply aops_step (by decide) rfl
  · intro K hK
    simp (disch := first | omega | decide) only [go_sem, f0, act_box_t ti24, List.map, cellsOf_link]
    rw [settleL_vish _ _ (by rfl)]
    simp (disch := first | omega | decide) only [go_sem, f0, cellsL, List.map, List.length_cons, List.length_nil, Nat.reduceAdd, if_true, cellsOf_link]
    exact hK _
  apply aops_step (by decide) rfl
  · intro K hK
    simp (disch := first | omega | decide) only [go_sem, f0, act_alloc_t ti24, List.map, cellsOf_link]
    exact hK _
  refine aops_nil ?_
  refine AW.seq ?_
  refine AW.region (cfg := cfg) ?_
  apply aops_step (by decide) rfl
  · intro K hK
    simp (disch := first | omega | decide) only [go_sem, f0, act_fieldAddr_t fo24_2, List.map, cellsOf_link]
    rw [mwp_fieldAddr_b (by simp (disch := first | omega | decide) only [go_sem, f0, cellsOf_link]; rfl)]
    exact hK _
  apply aops_step (by decide) rfl
  · intro K hK
    simp (disch := first | omega | decide) only [go_sem, f0, act_load_t ti22, List.map, cellsOf_link]
    rw [mwp_load_b1 (by simp (disch := first | omega | decide) only [go_sem, f0, cellsOf_link]; rfl) (by rfl)]
    exact hK _
  apply aops_step (by decide) rfl
  · intro K hK
    simp (disch := first | omega | decide) only [go_sem, f0, act_call, List.map, cellsOf_link]
    apply mwp_call_r rfl rfl rfl
    · intro Q hQ
      (simp (disch := first | omega | decide) only [go_sem, f0, peekL, reifyL_nil, reifyL_cons, reify_v, cellsOf_link]; (exact hQ))
    · exact good_CloneLink _ _ (by omega) hz
    · simp [-List.map_take, -List.map_drop, -List.map_append, -List.map_replicate, -List.reduceReplicate, noPtrL, noPtr, noPtrL_bsl, noPtrL_map, sub]
    · rw [resOf_own1 (by (simp (disch := decide) only [mset_ne, hr]; done))]
      exact hK _
  apply aops_step (by decide) rfl
  · intro K hK
    simp (disch := first | omega | decide) only [go_sem, f0, act_fieldAddr_t fo24_2, List.map, cellsOf_link]
    rw [mwp_fieldAddr_b (by simp (disch := first | omega | decide) only [go_sem, f0, cellsOf_link]; rfl)]
    exact hK _
  apply aops_step0 rfl
  · intro K hK
    simp (disch := first | omega | decide) only [go_sem, f0, act_store_t ti22, List.map, cellsOf_link]
    rw [mwp_store_o (by simp (disch := first | omega | decide) only [go_sem, f0, cellsOf_link]; rfl) (by simp (disch := first | omega | decide) only [go_sem, f0, cellsOf_link]; rfl) (by decide) (by simp)]
    (simp [-List.map_take, -List.map_drop, aStore, cellsL, settleL, settle, M.bind, Mwp, freezeN, cellishAV, Value.oneCell', setAt, sub, mset_same, mset_ne, List.take_of_length_le, f0])
    try simp only [setAt, cellsL, cellsOf_agg, cellsOf_base, List.map_cons, List.map_nil, List.set_cons_zero, List.set_cons_succ, Nat.reduceAdd, Nat.zero_add, hG]
    exact hK _
  refine aops_nil ?_
  refine AW.seq ?_
  refine AW.region (cfg := cfg) ?_
  apply aops_step (by decide) rfl
  · intro K hK
    simp (disch := first | omega | decide) only [go_sem, f0, act_load_t ti24, List.map, cellsOf_link]
    rw [mwp_load_bs (by simp (disch := first | omega | decide) only [go_sem, f0, cellsOf_link]; rfl) (by simp [setAt])]
    try simp only [List.drop_zero, List.drop_succ_cons, List.take_succ_cons, List.take_zero]
    exact hK _
  apply aops_step0 rfl
  · intro K hK
    simp (disch := first | omega | decide) only [go_sem, f0, act_store_t ti24, List.map, cellsOf_link]
    skip
    (simp [-List.map_take, -List.map_drop, aStore, cellsL, settleL, settle, M.bind, Mwp, freezeN, cellishAV, Value.oneCell', setAt, sub, mset_same, mset_ne, List.take_of_length_le, f0])
    try simp only [setAt, cellsL, cellsOf_agg, cellsOf_base, List.map_cons, List.map_nil, List.set_cons_zero, List.set_cons_succ, Nat.reduceAdd, Nat.zero_add, hG]
    exact hK _
  refine aops_nil ?_
  refine AW.ret ?_
  refine ⟨.inr rfl, ?_⟩
  refine leaves_mwp2 (rs := [.cell 2 24]) rfl ?_
  simp (config := {failIfUnchanged := false}) [giveL, srcOne, rehome, freezeN, sub, ti24, upd, opn, aLoad, loadL, giveOne, reify, reifyL, readL, readOne, Mwp, M.bind, Mem.set, setAt, cellsL, hG, f0, lsaA]
  all_goals first | done | trace_state

set_option maxHeartbeats 4000000 in
set_option maxRecDepth 100000 in
theorem good_refCost (x : Lsa) (hx : x.ls.length ≤ 9223372036854775807)(to : Int) : Good Try.prog 31 [(lsaA x, false), (i64 to, false)] [] [(i64 (costOf x.ls to), false)] [] := by
  refine good_of_body2 27 Try.func31 rfl rfl rfl (by simp) ?_
  intro s m ha hr hv hG
  have f0 : s 0 = .v (.agg [i64 x.o, i64 x.s, .sl 2 x.nil (x.ls.map linkA)]) := ha 0 _ rfl
  have f1 : s 1 = .v (i64 to) := ha 1 _ rfl
  clear ha
  refine AW.seq ?_
  refine AW.region (cfg := cfg) ?_
  apply aops_step (by decide) rfl
  · intro K hK
    simp (disch := first | omega | decide) only [go_sem, f0, f1, act_box_t ti24, List.map, cellsOf_link]
    rw [settleL_vish _ _ (by rfl)]
    simp (disch := first | omega | decide) only [go_sem, f0, f1, cellsL, List.map, List.length_cons, List.length_nil, Nat.reduceAdd, if_true, cellsOf_link]
    exact hK _
  iterate 1 (apply aops_step (by decide) rfl; · (intro K hK; simp (disch := first | omega | decide) only [go_sem, f0, f1, cellsOf_link]; exact hK _))
  refine aops_nil ?_
  refine AW.seq ?_
  refine AW.seq ?_
  refine AW.region (cfg := cfg) ?_
  iterate 1 (apply aops_step (by decide) rfl; · (intro K hK; simp (disch := first | omega | decide) only [go_sem, f0, f1, cellsOf_link]; exact hK _))
  refine aops_nil ?_
  refine AW.block ?_
  refine AW.forN (fun k σ => ∃ s m, σ = ⟨27, s, m⟩ ∧ s 2 = .lptr (.tmp 2 0) (m.objs (.tmp 2 0)).1 0 ∧ (m.objs (.tmp 2 0)).2 = .box [.v (i64 x.o), .v (i64 x.s), .v (.sl 2 x.nil (x.ls.map linkA))] ∧ s 5 = .v (i64 (k : Int)) ∧ s 1 = .v (i64 to) ∧ (∀ y ∈ x.ls.take k, ¬ y.to = to) ∧ m.G = []) (x.ls.length) ?_ ?_ ?_
  · refine ⟨_, _, rfl, ?_, ?_, ?_, ?_, ?_, (by exact hG)⟩ <;> try simp (disch := first | omega | decide) only [go_sem, f0, f1, cellsOf_link]
    all_goals first | rfl | (simp; done)
  · clear f0 f1 hG
    rintro k σ hk ⟨s, m, rfl, f2, o2, f5, f1, mo0, hG⟩
    obtain ⟨g2, o2⟩ : ∃ g, m.objs (.tmp 2 0) = (g, .box [.v (i64 x.o), .v (i64 x.s), .v (.sl 2 x.nil (x.ls.map linkA))]) := ⟨_, Prod.ext rfl o2⟩
    rw [o2] at f2
    refine AW.seq ?_
    refine AW.seq ?_
    refine AW.region (cfg := cfg) ?_
    iterate 1 (apply aops_step (by decide) rfl; · (intro K hK; simp (disch := first | omega | decide) only [go_sem, f2, f5, f1, o2, cellsOf_link]; exact hK _))
    apply aops_step (by decide) rfl
    · intro K hK
      simp (disch := first | omega | decide) only [go_sem, f2, f5, f1, o2, act_fieldAddr_t fo24_2, List.map, cellsOf_link]
      rw [mwp_fieldAddr_b (by simp (disch := first | omega | decide) only [go_sem, f2, f5, f1, o2, cellsOf_link]; rfl)]
      exact hK _
    apply aops_step (by decide) rfl
    · intro K hK
      simp (disch := first | omega | decide) only [go_sem, f2, f5, f1, o2, act_load_t ti22, List.map, cellsOf_link]
      rw [mwp_load_b1 (by simp (disch := first | omega | decide) only [go_sem, f2, f5, f1, o2, cellsOf_link]; rfl) (by rfl)]
      exact hK _
    iterate 2 (apply aops_step (by decide) rfl; · (intro K hK; simp (disch := first | omega | decide) only [go_sem, f2, f5, f1, o2, List.map, List.length_map, aops_len u22, cellsOf_link]; exact hK _))
    refine aops_nil ?_
    apply AW.cond
    · simp (disch := first | omega | decide) only [go_sem, f2, f5, f1, o2, cellsOf_link]; rfl
    case hf => intro hb; (simp at hb; omega)
    case ht =>
    intro hb
    have hbt10 := hb
    refine AW.skip ?_
    refine AW.seq ?_
    refine AW.block ?_
    refine AW.seq ?_
    refine AW.region (cfg := cfg) ?_
    apply aops_step (by decide) rfl
    · intro K hK
      simp (disch := first | omega | decide) only [go_sem, f2, f5, f1, o2, act_fieldAddr_t fo24_2, List.map, cellsOf_link]
      rw [mwp_fieldAddr_b (by simp (disch := first | omega | decide) only [go_sem, f2, f5, f1, o2, cellsOf_link]; rfl)]
      exact hK _
    apply aops_step (by decide) rfl
    · intro K hK
      simp (disch := first | omega | decide) only [go_sem, f2, f5, f1, o2, act_load_t ti22, List.map, cellsOf_link]
      rw [mwp_load_b1 (by simp (disch := first | omega | decide) only [go_sem, f2, f5, f1, o2, cellsOf_link]; rfl) (by rfl)]
      exact hK _
    iterate 1 (apply aops_step (by decide) rfl; · (intro K hK; simp (disch := first | omega | decide) only [go_sem, f2, f5, f1, o2, cellsOf_link]; exact hK _))
    apply aops_step (by decide) rfl
    · intro K hK
      simp (disch := first | omega | decide) only [go_sem, f2, f5, f1, o2, act_indexAddr_s u22 ti94, List.map, cellsOf_link]
      skip
      exact hK _
    apply aops_step (by decide) rfl
    · intro K hK
      simp (disch := first | omega | decide) only [go_sem, f2, f5, f1, o2, act_fieldAddr_t fo94_0, List.map, cellsOf_link]
      skip
      exact hK _
    apply aops_step (by decide) rfl
    · intro K hK
      simp (disch := first | omega | decide) only [go_sem, f2, f5, f1, o2, act_load_t ti3, List.map, cellsOf_link]
      rw [mwp_load_i1 (by rfl)]
      exact hK _
    iterate 2 (apply aops_step (by decide) rfl; · (intro K hK; simp (disch := first | omega | decide) only [go_sem, f2, f5, f1, o2, cellsOf_link]; exact hK _))
    refine aops_nil ?_
    apply AW.cond
    · simp (disch := first | omega | decide) only [go_sem, f2, f5, f1, o2, cellsOf_link]; rfl
    case ht =>
      intro hb
      try simp only [Bool.or_eq_true, Bool.and_eq_true, Bool.or_eq_false_iff, Bool.and_eq_false_iff, decide_eq_true_eq, decide_eq_false_iff_not] at hb
      have hbt20 := hb
      refine AW.seq ?_
      refine AW.region (cfg := cfg) ?_
      apply aops_step (by decide) rfl
      · intro K hK
        simp (disch := first | omega | decide) only [go_sem, f2, f5, f1, o2, act_fieldAddr_t fo24_2, List.map, cellsOf_link]
        rw [mwp_fieldAddr_b (by simp (disch := first | omega | decide) only [go_sem, f2, f5, f1, o2, cellsOf_link]; rfl)]
        exact hK _
      apply aops_step (by decide) rfl
      · intro K hK
        simp (disch := first | omega | decide) only [go_sem, f2, f5, f1, o2, act_load_t ti22, List.map, cellsOf_link]
        rw [mwp_load_b1 (by simp (disch := first | omega | decide) only [go_sem, f2, f5, f1, o2, cellsOf_link]; rfl) (by rfl)]
        exact hK _
      iterate 1 (apply aops_step (by decide) rfl; · (intro K hK; simp (disch := first | omega | decide) only [go_sem, f2, f5, f1, o2, cellsOf_link]; exact hK _))
      apply aops_step (by decide) rfl
      · intro K hK
        simp (disch := first | omega | decide) only [go_sem, f2, f5, f1, o2, act_indexAddr_s u22 ti94, List.map, cellsOf_link]
        skip
        exact hK _
      apply aops_step (by decide) rfl
      · intro K hK
        simp (disch := first | omega | decide) only [go_sem, f2, f5, f1, o2, act_fieldAddr_t fo94_1, List.map, cellsOf_link]
        skip
        exact hK _
      apply aops_step (by decide) rfl
      · intro K hK
        simp (disch := first | omega | decide) only [go_sem, f2, f5, f1, o2, act_load_t ti3, List.map, cellsOf_link]
        rw [mwp_load_i1 (by rfl)]
        exact hK _
      iterate 1 (apply aops_step (by decide) rfl; · (intro K hK; simp (disch := first | omega | decide) only [go_sem, f2, f5, f1, o2, cellsOf_link]; exact hK _))
      refine aops_nil ?_
      refine AW.ret ?_
      refine ⟨.inr rfl, ?_⟩
      refine leaves_tmp1 4 rfl ?_ (by exact hG)
      simp (disch := first | omega | decide) only [go_sem, f2, f5, f1, o2, cellsOf_link]
      all_goals (rw [cost_at hk mo0 (by simpa using hb)]; done)
    case hf =>
      intro hb
      try simp only [Bool.or_eq_true, Bool.and_eq_true, Bool.or_eq_false_iff, Bool.and_eq_false_iff, decide_eq_true_eq, decide_eq_false_iff_not] at hb
      have hbt20 := hb
      refine AW.skip ?_
      refine AW.region (cfg := cfg) ?_
      iterate 3 (apply aops_step (by decide) rfl; · (intro K hK; simp (disch := first | omega | decide) only [go_sem, f2, f5, f1, o2, cellsOf_link]; exact hK _))
      refine aops_nil ?_
      refine ⟨_, _, rfl, ?_, ?_, ?_, ?_, ?_, (by exact hG)⟩ <;> try simp (disch := first | omega | decide) only [go_sem, f2, f5, f1, o2, cellsOf_link]
      all_goals first | rfl | skip
      all_goals (intro y hy; rw [List.take_succ_eq_append_getElem hk] at hy; rcases List.mem_append.1 hy with h | h; exact mo0 y h; rw [List.mem_singleton.1 h]; simpa using hb)
  · clear f0 f1 hG
    rintro σ ⟨s, m, rfl, f2, o2, f5, f1, mo0, hG⟩
    obtain ⟨g2, o2⟩ : ∃ g, m.objs (.tmp 2 0) = (g, .box [.v (i64 x.o), .v (i64 x.s), .v (.sl 2 x.nil (x.ls.map linkA))]) := ⟨_, Prod.ext rfl o2⟩
    rw [o2] at f2
    refine AW.seq ?_
    refine AW.seq ?_
    refine AW.region (cfg := cfg) ?_
    iterate 1 (apply aops_step (by decide) rfl; · (intro K hK; simp (disch := first | omega | decide) only [go_sem, f2, f5, f1, o2, cellsOf_link]; exact hK _))
    apply aops_step (by decide) rfl
    · intro K hK
      simp (disch := first | omega | decide) only [go_sem, f2, f5, f1, o2, act_fieldAddr_t fo24_2, List.map, cellsOf_link]
      rw [mwp_fieldAddr_b (by simp (disch := first | omega | decide) only [go_sem, f2, f5, f1, o2, cellsOf_link]; rfl)]
      exact hK _
    apply aops_step (by decide) rfl
    · intro K hK
      simp (disch := first | omega | decide) only [go_sem, f2, f5, f1, o2, act_load_t ti22, List.map, cellsOf_link]
      rw [mwp_load_b1 (by simp (disch := first | omega | decide) only [go_sem, f2, f5, f1, o2, cellsOf_link]; rfl) (by rfl)]
      exact hK _
    iterate 2 (apply aops_step (by decide) rfl; · (intro K hK; simp (disch := first | omega | decide) only [go_sem, f2, f5, f1, o2, List.map, List.length_map, aops_len u22, cellsOf_link]; exact hK _))
    refine aops_nil ?_
    apply AW.cond
    · simp (disch := first | omega | decide) only [go_sem, f2, f5, f1, o2, cellsOf_link]; rfl
    case ht => intro hb; (simp at hb; done)
    case hf =>
    intro hb
    have hbt10 := hb
    refine AW.exit ?_
    refine AW.seq ?_
    refine AW.region (cfg := cfg) ?_
    iterate 1 (apply aops_step (by decide) rfl; · (intro K hK; simp (disch := first | omega | decide) only [go_sem, f2, f5, f1, o2, cellsOf_link]; exact hK _))
    refine aops_nil ?_
    refine AW.ret ?_
    refine ⟨.inr rfl, ?_⟩
    refine leaves_tmp1 4 rfl ?_ (by exact hG)
    simp (disch := first | omega | decide) only [go_sem, f2, f5, f1, o2, cellsOf_link]
    all_goals (rw [cost_none (by simpa using mo0)]; done)

set_option maxHeartbeats 4000000 in
set_option maxRecDepth 100000 in
theorem good_Cost1 (x : LinkS) (to : Int) : Good Try.prog 73 [(linkA x, false), (.iptr [i64 to] 0, false)] [] [(.b (decide (x.to = to)), false)] [] := by
  refine good_of_body2 8 Try.func73 rfl rfl rfl (by simp) ?_
  intro s m ha hr hv hG
  have f0 : s 0 = .v (.agg [i64 x.to, i64 x.co]) := ha 0 _ rfl
  have f1 : s 1 = .v (.iptr [i64 to] 0) := ha 1 _ rfl
  clear ha
  refine AW.seq ?_
  refine AW.region (cfg := cfg) ?_
  apply aops_step (by decide) rfl
  · intro K hK
    simp (disch := first | omega | decide) only [go_sem, f0, f1, act_box_t ti94, List.map, cellsOf_link]
    rw [settleL_vish _ _ (by rfl)]
    simp (disch := first | omega | decide) only [go_sem, f0, f1, cellsL, List.map, List.length_cons, List.length_nil, Nat.reduceAdd, if_true, cellsOf_link]
    exact hK _
  iterate 1 (apply aops_step (by decide) rfl; · (intro K hK; simp (disch := first | omega | decide) only [go_sem, f0, f1, cellsOf_link]; exact hK _))
  refine aops_nil ?_
  refine AW.seq ?_
  refine AW.region (cfg := cfg) ?_
  apply aops_step (by decide) rfl
  · intro K hK
    simp (disch := first | omega | decide) only [go_sem, f0, f1, act_fieldAddr_t fo94_0, List.map, cellsOf_link]
    rw [mwp_fieldAddr_b (by simp (disch := first | omega | decide) only [go_sem, f0, f1, cellsOf_link]; rfl)]
    exact hK _
  apply aops_step (by decide) rfl
  · intro K hK
    simp (disch := first | omega | decide) only [go_sem, f0, f1, act_load_t ti3, List.map, cellsOf_link]
    rw [mwp_load_b1 (by simp (disch := first | omega | decide) only [go_sem, f0, f1, cellsOf_link]; rfl) (by rfl)]
    exact hK _
  apply aops_step (by decide) rfl
  · intro K hK
    simp (disch := first | omega | decide) only [go_sem, f0, f1, act_load_t ti3, List.map, cellsOf_link]
    skip
    exact hK _
  iterate 2 (apply aops_step (by decide) rfl; · (intro K hK; simp (disch := first | omega | decide) only [go_sem, f0, f1, cellsOf_link]; exact hK _))
  refine aops_nil ?_
  refine AW.ret ?_
  refine ⟨.inr rfl, ?_⟩
  refine leaves_tmp1 3 rfl ?_ (by exact hG)
  simp (disch := first | omega | decide) only [go_sem, f0, f1, cellsOf_link]
  all_goals first | done | rfl | trace_state

set_option maxHeartbeats 4000000 in
set_option maxRecDepth 100000 in
theorem good_Cost (x : Lsa) (hx : x.ls.length ≤ 9223372036854775807)(to : Int) : Good Try.prog 30 [(lsaA x, false), (i64 to, false)] [] [(i64 (costOf x.ls to), false)] [] := by
  refine good_of_body2 18 Try.func30 rfl rfl rfl (by simp) ?_
  intro s m ha hr hv hG
  have f0 : s 0 = .v (.agg [i64 x.o, i64 x.s, .sl 2 x.nil (x.ls.map linkA)]) := ha 0 _ rfl
  have f1 : s 1 = .v (i64 to) := ha 1 _ rfl
  clear ha
  refine AW.seq ?_
  refine AW.region (cfg := cfg) ?_
  apply aops_step (by decide) rfl
  · intro K hK
    simp (disch := first | omega | decide) only [go_sem, f0, f1, act_box_t ti24, List.map, cellsOf_link]
    rw [settleL_vish _ _ (by rfl)]
    simp (disch := first | omega | decide) only [go_sem, f0, f1, cellsL, List.map, List.length_cons, List.length_nil, Nat.reduceAdd, if_true, cellsOf_link]
    exact hK _
  apply aops_step (by decide) rfl
  · intro K hK
    simp (disch := first | omega | decide) only [go_sem, f0, f1, act_box_t ti3, List.map, cellsOf_link]
    rw [settleL_vish _ _ (by rfl)]
    simp (disch := first | omega | decide) only [go_sem, f0, f1, cellsL, List.map, List.length_cons, List.length_nil, Nat.reduceAdd, if_true, cellsOf_link]
    exact hK _
  iterate 1 (apply aops_step (by decide) rfl; · (intro K hK; simp (disch := first | omega | decide) only [go_sem, f0, f1, cellsOf_link]; exact hK _))
  refine aops_nil ?_
  refine AW.seq ?_
  refine AW.region (cfg := cfg) ?_
  apply aops_step (by decide) rfl
  · intro K hK
    simp (disch := first | omega | decide) only [go_sem, f0, f1, act_fieldAddr_t fo24_2, List.map, cellsOf_link]
    rw [mwp_fieldAddr_b (by simp (disch := first | omega | decide) only [go_sem, f0, f1, cellsOf_link]; rfl)]
    exact hK _
  apply aops_step (by decide) rfl
  · intro K hK
    simp (disch := first | omega | decide) only [go_sem, f0, f1, act_load_t ti22, List.map, cellsOf_link]
    rw [mwp_load_b1 (by simp (disch := first | omega | decide) only [go_sem, f0, f1, cellsOf_link]; rfl) (by rfl)]
    exact hK _
  apply aops_step (by decide) rfl
  · intro K hK
    simp (disch := first | omega | decide) only [go_sem, f0, f1, act_makeFunc, List.map, cellsOf_link]
    simp [captureL, capture, M.bind, Mwp, reifyL, reify, mset_same, mset_ne, f0, f1]
    exact hK _
  apply aops_step (by decide) rfl
  · intro K hK
    simp (disch := first | omega | decide) only [go_sem, f0, f1, act_call, List.map, cellsOf_link]
    apply mwp_call_s rfl rfl rfl
    · intro Q hQ
      (simp (disch := first | omega | decide) only [go_sem, f0, f1, peekL, reifyL_nil, reifyL_cons, reify_v, cellsOf_link]; (exact hQ))
    · exact good_IndexFuncLink _ _ _ [.iptr [i64 to] 0] (fun x => decide (x.to = to)) (by omega) rfl rfl rfl (fun x _ => good_Cost1 x to)
    · simp [-List.map_take, -List.map_drop, -List.map_append, -List.map_replicate, -List.reduceReplicate, noPtrL, noPtr, noPtrL_bsl, noPtrL_map, sub]
    · rfl
    · exact hK _
  iterate 1 (apply aops_step (by decide) rfl; · (intro K hK; simp (disch := first | omega | decide) only [go_sem, f0, f1, cellsOf_link]; exact hK _))
  refine aops_nil ?_
  refine AW.seq ?_
  refine AW.seq ?_
  refine AW.region (cfg := cfg) ?_
  iterate 2 (apply aops_step (by decide) rfl; · (intro K hK; simp (disch := first | omega | decide) only [go_sem, f0, f1, cellsOf_link]; exact hK _))
  refine aops_nil ?_
  apply AW.cond
  · simp (disch := first | omega | decide) only [go_sem, f0, f1, cellsOf_link]; rfl
  case ht =>
    intro hb
    try simp only [Bool.or_eq_true, Bool.and_eq_true, Bool.or_eq_false_iff, Bool.and_eq_false_iff, decide_eq_true_eq, decide_eq_false_iff_not] at hb
    have hbt11 := hb
    refine AW.seq ?_
    refine AW.region (cfg := cfg) ?_
    iterate 1 (apply aops_step (by decide) rfl; · (intro K hK; simp (disch := first | omega | decide) only [go_sem, f0, f1, cellsOf_link]; exact hK _))
    refine aops_nil ?_
    refine AW.ret ?_
    refine ⟨.inr rfl, ?_⟩
    refine leaves_tmp1 4 rfl ?_ (by exact hG)
    simp (disch := first | omega | decide) only [go_sem, f0, f1, cellsOf_link]
    all_goals (rw [cost_n hb]; done)
  case hf =>
    intro hb
    try simp only [Bool.or_eq_true, Bool.and_eq_true, Bool.or_eq_false_iff, Bool.and_eq_false_iff, decide_eq_true_eq, decide_eq_false_iff_not] at hb
    have hbt11 := hb
    refine AW.skip ?_
    refine AW.seq ?_
    obtain ⟨r1, r2⟩ := findI_range hb
    refine AW.region (cfg := cfg) ?_
    apply aops_step (by decide) rfl
    · intro K hK
      simp (disch := first | omega | decide) only [go_sem, f0, f1, act_fieldAddr_t fo24_2, List.map, cellsOf_link]
      rw [mwp_fieldAddr_b (by simp (disch := first | omega | decide) only [go_sem, f0, f1, cellsOf_link]; rfl)]
      exact hK _
    apply aops_step (by decide) rfl
    · intro K hK
      simp (disch := first | omega | decide) only [go_sem, f0, f1, act_load_t ti22, List.map, cellsOf_link]
      rw [mwp_load_b1 (by simp (disch := first | omega | decide) only [go_sem, f0, f1, cellsOf_link]; rfl) (by rfl)]
      exact hK _
    iterate 1 (apply aops_step (by decide) rfl; · (intro K hK; simp (disch := first | omega | decide) only [go_sem, f0, f1, cellsOf_link]; exact hK _))
    apply aops_step (by decide) rfl
    · intro K hK
      simp (disch := first | omega | decide) only [go_sem, f0, f1, act_indexAddr_s u22 ti94, List.map, cellsOf_link]
      skip
      exact hK _
    apply aops_step (by decide) rfl
    · intro K hK
      simp (disch := first | omega | decide) only [go_sem, f0, f1, act_fieldAddr_t fo94_1, List.map, cellsOf_link]
      skip
      exact hK _
    apply aops_step (by decide) rfl
    · intro K hK
      simp (disch := first | omega | decide) only [go_sem, f0, f1, act_load_t ti3, List.map, cellsOf_link]
      rw [mwp_load_i1 (by rfl)]
      exact hK _
    iterate 1 (apply aops_step (by decide) rfl; · (intro K hK; simp (disch := first | omega | decide) only [go_sem, f0, f1, cellsOf_link]; exact hK _))
    refine aops_nil ?_
    refine AW.ret ?_
    refine ⟨.inr rfl, ?_⟩
    refine leaves_tmp1 4 rfl ?_ (by exact hG)
    simp (disch := first | omega | decide) only [go_sem, f0, f1, cellsOf_link]
    all_goals (rw [cost_i hb]; done)

end Go.Vai.L
