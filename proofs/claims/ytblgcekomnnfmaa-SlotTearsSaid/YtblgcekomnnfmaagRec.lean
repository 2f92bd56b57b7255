import Derived.Test.YtblgcekomnnfmaagPage7
import Derived.Test.YtblgcekomnnfmaaRecPl
import Derived.Test.YtblgcekomnnfmaaVaiD
namespace Go.Vai.R
open Go.Proofs Go.Vai Go.Vai.G Go.Vai.L Go.Vai.O Go.Vai.U Go.Vai.Z
set_option linter.unusedSimpArgs false
set_option linter.unusedVariables false

theorem par_q {n : Int} (h : ¬ n < 0 ∧ ¬ n > 7808) : (if (n + 488 - 1) / 488 > 1 then (n + 488 - 1) / 488 else 1) = parts n := by
  rw [← parts_max (n := n) (by omega), show n + 488 - 1 = n + 487 by omega]
def splitOK (p : Page) (b : List (BitVec 8)) : Bool := decide (parts (b.length : Int) ≠ 0) && allPages (splitP p false b (parts (b.length : Int)).toNat)
def splitL (p : Page) (nil : Bool) (b : List (BitVec 8)) : List Page := if splitOK p b then splitP p nil b (parts (b.length : Int)).toNat else []
def splitE (p : Page) (b : List (BitVec 8)) : Int := if parts (b.length : Int) = 0 then 5 else if splitOK p b then 0 else 1
theorem allP_succ (p : Page) (b : List (BitVec 8)) (k : Nat) : allPages (splitP p false b (k + 1)) = (allPages (splitP p false b k) && pageOK (pageAt p false b (parts (b.length : Int)) k)) := by
  rw [splitP_succ]; simp [allPages, List.all_append]
theorem allP_stop {p : Page} {b : List (BitVec 8)} {k : Nat} (hk : pageOK (pageAt p false b (parts (b.length : Int)) k) = false) : ∀ {n : Nat}, k < n → allPages (splitP p false b n) = false
  | 0, h => by omega
  | n + 1, h => by
    rw [allP_succ]
    by_cases e : k = n
    · subst e; rw [hk, Bool.and_false]
    · rw [allP_stop hk (by omega), Bool.false_and]
theorem split_no0 {p : Page} {nil : Bool} {b : List (BitVec 8)} (h : parts (b.length : Int) = 0) : splitOK p b = false ∧ splitL p nil b = [] ∧ splitE p b = 5 := by
  have : splitOK p b = false := by rw [splitOK, h]; rfl
  exact ⟨this, by rw [splitL, this]; rfl, by rw [splitE, if_pos h]⟩
theorem split_no1 {p : Page} {nil : Bool} {b : List (BitVec 8)} {k : Nat} (h : parts (b.length : Int) ≠ 0) (hk : k < (parts (b.length : Int)).toNat) (h2 : pageOK (pageAt p false b (parts (b.length : Int)) k) = false) : splitOK p b = false ∧ splitL p nil b = [] ∧ splitE p b = 1 := by
  have : splitOK p b = false := by rw [splitOK, allP_stop h2 hk, Bool.and_false]
  exact ⟨this, by rw [splitL, this]; rfl, by rw [splitE, if_neg h, this]; rfl⟩
theorem split_yes {p : Page} {nil : Bool} {b : List (BitVec 8)} (h : parts (b.length : Int) ≠ 0) (h2 : allPages (splitP p false b (parts (b.length : Int)).toNat) = true) : splitOK p b = true ∧ splitL p nil b = splitP p nil b (parts (b.length : Int)).toNat ∧ splitE p b = 0 := by
  have : splitOK p b = true := by rw [splitOK, h2, decide_eq_true h]; rfl
  exact ⟨this, by rw [splitL, this]; rfl, by rw [splitE, if_neg h, this]; rfl⟩
theorem okAt_nil (p : Page) (nil : Bool) (b : List (BitVec 8)) (n : Int) (k : Nat) : pageOK (pageAt p nil b n k) = pageOK (pageAt p false b n k) := rfl
theorem chunk_is {b : List (BitVec 8)} {k : Nat} : (b.drop (488 * k)).take (if ((b.drop (488 * k)).length : Int) < 488 then ((b.drop (488 * k)).length : Int) else 488).toNat = chunk b k := by
  unfold chunk
  split
  · rw [Int.toNat_natCast, List.take_of_length_le (Nat.le_refl _), List.take_of_length_le (by omega)]
  · rfl
theorem chunk_next {b : List (BitVec 8)} {k : Nat} : (b.drop (488 * k)).drop (if ((b.drop (488 * k)).length : Int) < 488 then ((b.drop (488 * k)).length : Int) else 488).toNat = b.drop (488 * (k + 1)) := by
  rw [List.drop_drop]
  split
  · rename_i h
    rw [Int.toNat_natCast]
    simp at h ⊢
    omega
  · rfl
set_option maxHeartbeats 4000000 in
set_option maxRecDepth 100000 in
theorem good_Parts (n : Int) (hn : -9223372036854775808 ≤ n ∧ n ≤ 9223372036854775807) : Good Try.prog 47 [(i64 n, false)] [] [(i64 (parts n), false)] [] := by
  refine good_of_body2 14 Try.func47 rfl rfl rfl (by simp) ?_
  intro s m ha hr hv hG
  have f0 : s 0 = .v (i64 n) := ha 0 _ rfl
  clear ha
  refine AW.seq ?_
  refine AW.region (cfg := cfg) ?_
  iterate 1 (apply aops_step (by decide) rfl; · (intro K hK; simp (disch := first | omega | decide) only [go_sem, f0]; exact hK _))
  refine aops_nil ?_
  refine AW.seq ?_
  refine AW.seq ?_
  refine AW.region (cfg := cfg) ?_
  iterate 3 (apply aops_step (by decide) rfl; · (intro K hK; simp (disch := first | omega | decide) only [go_sem, f0]; exact hK _))
  apply aops_merge' (by decide) (by exact want_of (d := 5) rfl (by simp (disch := first | omega | decide) only [go_sem, f0, opn_cond]; rfl))
  · intro hc K hK
    have hc2 := hc
    simp only [beq_iff_eq, decide_eq_true_eq, decide_eq_false_iff_not, Bool.or_eq_true, Bool.and_eq_true, Bool.or_eq_false_iff, Bool.and_eq_false_iff] at hc2
    simp (disch := first | omega | decide) only [go_sem, f0, opn_cond, hc, if_true]
    exact hK _
  apply aops_merge' (by decide) (by exact want_of (d := 5) rfl (by simp (disch := first | omega | decide) only [go_sem, f0, opn_cond]; rfl))
  · intro hc K hK
    have hc2 := hc
    simp only [beq_iff_eq, decide_eq_true_eq, decide_eq_false_iff_not, Bool.or_eq_true, Bool.and_eq_true, Bool.or_eq_false_iff, Bool.and_eq_false_iff] at hc2
    simp (disch := first | omega | decide) only [go_sem, f0, opn_cond, hc, if_true]
    exact hK _
  iterate 1 (apply aops_step (by decide) rfl; · (intro K hK; simp (disch := first | omega | decide) only [go_sem, f0]; exact hK _))
  refine aops_nil ?_
  apply AW.cond
  · simp (disch := first | omega | decide) only [go_sem, f0]; rfl
  case ht =>
    intro hb
    try simp only [Bool.or_eq_true, Bool.and_eq_true, Bool.or_eq_false_iff, Bool.and_eq_false_iff, decide_eq_true_eq, decide_eq_false_iff_not] at hb
    have hbt8 := hb
    refine AW.seq ?_
    refine AW.region (cfg := cfg) ?_
    iterate 1 (apply aops_step (by decide) rfl; · (intro K hK; simp (disch := first | omega | decide) only [go_sem, f0]; exact hK _))
    refine aops_nil ?_
    refine AW.ret ?_
    refine ⟨.inr rfl, ?_⟩
    refine leaves_tmp1 2 rfl ?_ (by exact hG)
    simp (disch := first | omega | decide) only [go_sem, f0]
    all_goals (rw [parts_no (by omega)]; done)
  case hf =>
    intro hb
    try simp only [Bool.or_eq_true, Bool.and_eq_true, Bool.or_eq_false_iff, Bool.and_eq_false_iff, decide_eq_true_eq, decide_eq_false_iff_not] at hb
    have hbt8 := hb
    refine AW.skip ?_
    refine AW.seq ?_
    refine AW.region (cfg := cfg) ?_
    iterate 6 (apply aops_step (by decide) rfl; · (intro K hK; simp (disch := first | omega | decide) only [go_sem, f0]; exact hK _))
    refine aops_nil ?_
    refine AW.ret ?_
    refine ⟨.inr rfl, ?_⟩
    refine leaves_tmp1 2 rfl ?_ (by exact hG)
    simp (disch := first | omega | decide) only [go_sem, f0]
    all_goals (rw [par_q (by omega)]; done)

set_option maxHeartbeats 4000000 in
set_option maxRecDepth 100000 in
theorem good_right (p : Page) (hp : p.b.length ≤ 9223372036854775807) : Good Try.prog 82 [(pageA p, false)] [] [(.b (pageOK p), false)] [] := by
  refine good_of_body2 12 Try.func82 rfl rfl rfl (by simp) ?_
  intro s m ha hr hv hG
  have f0 : s 0 = .v (.agg [i64 p.kind, i64 p.gen, i64 p.mark, i64 p.idx, i64 p.part, i64 p.parts, .sl 1 p.nil (bsl p.b)]) := ha 0 _ rfl
  clear ha
  refine AW.seq ?_
  refine AW.region (cfg := cfg) ?_
  apply aops_step (by decide) rfl
  · intro K hK
    simp (disch := first | omega | decide) only [go_sem, f0, act_box_t ti58, List.map, cellsOf_page]
    rw [settleL_vish _ _ (by rfl)]
    simp (disch := first | omega | decide) only [go_sem, f0, cellsL, List.map, List.length_cons, List.length_nil, Nat.reduceAdd, if_true, cellsOf_page]
    exact hK _
  iterate 1 (apply aops_step (by decide) rfl; · (intro K hK; simp (disch := first | omega | decide) only [go_sem, f0, cellsOf_page]; exact hK _))
  refine aops_nil ?_
  refine AW.seq ?_
  refine AW.region (cfg := cfg) ?_
  apply aops_step (by decide) rfl
  · intro K hK
    simp (disch := first | omega | decide) only [go_sem, f0, act_load_t ti58, List.map, cellsOf_page]
    rw [mwp_load_bs (by simp (disch := first | omega | decide) only [go_sem, f0, cellsOf_page]; rfl) (by simp [setAt])]
    exact hK _
  apply aops_step (by decide) rfl
  · intro K hK
    simp (disch := first | omega | decide) only [go_sem, f0, act_call, List.map, cellsOf_page]
    apply mwp_call_r rfl rfl rfl
    · intro Q hQ
      (simp (disch := first | omega | decide) only [go_sem, f0, peekL, reifyL_nil, reifyL_cons, reify_v, cellsOf_page]; (exact hQ))
    · exact good_PutP p (by omega)
    · simp [-List.map_take, -List.map_drop, -List.map_append, -List.map_replicate, -List.reduceReplicate, noPtrL, noPtr, noPtrL_bsl, noPtrL_map, sub]
    · rw [resOf_own2 (by (simp (disch := decide) only [mset_ne, hr]; done))]
      exact hK _
  iterate 3 (apply aops_step (by decide) rfl; · (intro K hK; simp (disch := first | omega | decide) only [go_sem, f0, cellsOf_page]; exact hK _))
  apply aops_step (by decide) rfl
  · intro K hK
    simp (disch := first | omega | decide) only [go_sem, f0, cellsOf_page]
    rw [asg_tmp (by simp (disch := first | omega | decide) only [go_sem, f0, cellsOf_page]; rfl)]
    exact hK _
  iterate 1 (apply aops_step (by decide) rfl; · (intro K hK; simp (disch := first | omega | decide) only [go_sem, f0, cellsOf_page]; exact hK _))
  refine aops_nil ?_
  refine AW.seq ?_
  refine AW.region (cfg := cfg) ?_
  iterate 3 (apply aops_step (by decide) rfl; · (intro K hK; simp (disch := first | omega | decide) only [go_sem, f0, cellsOf_page]; exact hK _))
  refine aops_nil ?_
  refine AW.ret ?_
  refine ⟨.inr rfl, ?_⟩
  refine leaves_tmp1 2 rfl ?_ (by exact hG)
  simp (disch := first | omega | decide) only [go_sem, f0, cellsOf_page]
  all_goals (rw [pgE_ok]; done)

set_option maxHeartbeats 4000000 in
set_option maxRecDepth 100000 in
theorem good_follows (f : Page) (hf : f.b.length ≤ 9223372036854775807)(p : Page) (hp : p.b.length ≤ 9223372036854775807) (i : Int) (hi : 0 ≤ i ∧ i ≤ 16) : Good Try.prog 86 [(pageA f, false), (pageA p, false), (i64 i, false)] [] [(.b (follows f p i), false)] [] := by
  refine good_of_body2 65 Try.func86 rfl rfl rfl (by simp) ?_
  intro s m ha hr hv hG
  have f0 : s 0 = .v (.agg [i64 f.kind, i64 f.gen, i64 f.mark, i64 f.idx, i64 f.part, i64 f.parts, .sl 1 f.nil (bsl f.b)]) := ha 0 _ rfl
  have f1 : s 1 = .v (.agg [i64 p.kind, i64 p.gen, i64 p.mark, i64 p.idx, i64 p.part, i64 p.parts, .sl 1 p.nil (bsl p.b)]) := ha 1 _ rfl
  have f2 : s 2 = .v (i64 i) := ha 2 _ rfl
  clear ha
  refine AW.seq ?_
  refine AW.region (cfg := cfg) ?_
  apply aops_step (by decide) rfl
  · intro K hK
    simp (disch := first | omega | decide) only [go_sem, f0, f1, f2, act_box_t ti58, List.map, cellsOf_page]
    rw [settleL_vish _ _ (by rfl)]
    simp (disch := first | omega | decide) only [go_sem, f0, f1, f2, cellsL, List.map, List.length_cons, List.length_nil, Nat.reduceAdd, if_true, cellsOf_page]
    exact hK _
  apply aops_step (by decide) rfl
  · intro K hK
    simp (disch := first | omega | decide) only [go_sem, f0, f1, f2, act_box_t ti58, List.map, cellsOf_page]
    rw [settleL_vish _ _ (by rfl)]
    simp (disch := first | omega | decide) only [go_sem, f0, f1, f2, cellsL, List.map, List.length_cons, List.length_nil, Nat.reduceAdd, if_true, cellsOf_page]
    exact hK _
  iterate 1 (apply aops_step (by decide) rfl; · (intro K hK; simp (disch := first | omega | decide) only [go_sem, f0, f1, f2, cellsOf_page]; exact hK _))
  refine aops_nil ?_
  refine AW.seq ?_
  by_cases hsp : pageOK p = true
  · have hd := decide_eq_true hsp
    obtain ⟨c1, c2, c3, c4, c5, c6, c7⟩ := page_bd hsp
    have hso := hsp
    refine AW.region (cfg := cfg) ?_
    apply aops_step (by decide) rfl
    · intro K hK
      simp (disch := first | omega | decide) only [go_sem, f0, f1, f2, hd, hso, act_load_t ti58, List.map, cellsOf_page]
      rw [mwp_load_bs (by simp (disch := first | omega | decide) only [go_sem, f0, f1, f2, hd, hso, cellsOf_page]; rfl) (by simp [setAt])]
      exact hK _
    apply aops_step (by decide) rfl
    · intro K hK
      simp (disch := first | omega | decide) only [go_sem, f0, f1, f2, hd, hso, act_call, List.map, cellsOf_page]
      apply mwp_call_s rfl rfl rfl
      · intro Q hQ
        (simp (disch := first | omega | decide) only [go_sem, f0, f1, f2, hd, hso, peekL, reifyL_nil, reifyL_cons, reify_v, cellsOf_page]; (exact hQ))
      · exact good_right p (by omega)
      · simp [-List.map_take, -List.map_drop, -List.map_append, -List.map_replicate, -List.reduceReplicate, noPtrL, noPtr, noPtrL_bsl, noPtrL_map, sub]
      · rfl
      · exact hK _
    iterate 1 (apply aops_step (by decide) rfl; · (intro K hK; simp (disch := first | omega | decide) only [go_sem, f0, f1, f2, hd, hso, cellsOf_page]; exact hK _))
    apply aops_merge' (by decide) (by exact want_of (d := 9) rfl (by simp (disch := first | omega | decide) only [go_sem, f0, f1, f2, hd, hso, opn_cond, cellsOf_page]; rfl))
    · intro hc K hK
      have hc2 := hc
      simp only [beq_iff_eq, decide_eq_true_eq, decide_eq_false_iff_not, Bool.or_eq_true, Bool.and_eq_true, Bool.or_eq_false_iff, Bool.and_eq_false_iff] at hc2
      simp (disch := first | omega | decide) only [go_sem, f0, f1, f2, hd, hso, opn_cond, hc, if_true, act_fieldAddr_t fo58_0, cellsOf_page]
      rw [mwp_fieldAddr_b (by simp (disch := first | omega | decide) only [go_sem, f0, f1, f2, hd, hso, opn_cond, hc, if_true, cellsOf_page]; rfl)]
      exact hK _
    apply aops_merge' (by decide) (by exact want_of (d := 9) rfl (by simp (disch := first | omega | decide) only [go_sem, f0, f1, f2, hd, hso, opn_cond, cellsOf_page]; rfl))
    · intro hc K hK
      have hc2 := hc
      simp only [beq_iff_eq, decide_eq_true_eq, decide_eq_false_iff_not, Bool.or_eq_true, Bool.and_eq_true, Bool.or_eq_false_iff, Bool.and_eq_false_iff] at hc2
      simp (disch := first | omega | decide) only [go_sem, f0, f1, f2, hd, hso, opn_cond, hc, if_true, act_load_t ti3, cellsOf_page]
      rw [mwp_load_b1 (by simp (disch := first | omega | decide) only [go_sem, f0, f1, f2, hd, hso, opn_cond, hc, if_true, cellsOf_page]; rfl) (by rfl)]
      exact hK _
    apply aops_merge' (by decide) (by exact want_of (d := 9) rfl (by simp (disch := first | omega | decide) only [go_sem, f0, f1, f2, hd, hso, opn_cond, cellsOf_page]; rfl))
    · intro hc K hK
      have hc2 := hc
      simp only [beq_iff_eq, decide_eq_true_eq, decide_eq_false_iff_not, Bool.or_eq_true, Bool.and_eq_true, Bool.or_eq_false_iff, Bool.and_eq_false_iff] at hc2
      simp (disch := first | omega | decide) only [go_sem, f0, f1, f2, hd, hso, opn_cond, hc, if_true, act_fieldAddr_t fo58_0, cellsOf_page]
      rw [mwp_fieldAddr_b (by simp (disch := first | omega | decide) only [go_sem, f0, f1, f2, hd, hso, opn_cond, hc, if_true, cellsOf_page]; rfl)]
      exact hK _
    apply aops_merge' (by decide) (by exact want_of (d := 9) rfl (by simp (disch := first | omega | decide) only [go_sem, f0, f1, f2, hd, hso, opn_cond, cellsOf_page]; rfl))
    · intro hc K hK
      have hc2 := hc
      simp only [beq_iff_eq, decide_eq_true_eq, decide_eq_false_iff_not, Bool.or_eq_true, Bool.and_eq_true, Bool.or_eq_false_iff, Bool.and_eq_false_iff] at hc2
      simp (disch := first | omega | decide) only [go_sem, f0, f1, f2, hd, hso, opn_cond, hc, if_true, act_load_t ti3, cellsOf_page]
      rw [mwp_load_b1 (by simp (disch := first | omega | decide) only [go_sem, f0, f1, f2, hd, hso, opn_cond, hc, if_true, cellsOf_page]; rfl) (by rfl)]
      exact hK _
    apply aops_merge' (by decide) (by exact want_of (d := 9) rfl (by simp (disch := first | omega | decide) only [go_sem, f0, f1, f2, hd, hso, opn_cond, cellsOf_page]; rfl))
    · intro hc K hK
      have hc2 := hc
      simp only [beq_iff_eq, decide_eq_true_eq, decide_eq_false_iff_not, Bool.or_eq_true, Bool.and_eq_true, Bool.or_eq_false_iff, Bool.and_eq_false_iff] at hc2
      simp (disch := first | omega | decide) only [go_sem, f0, f1, f2, hd, hso, opn_cond, hc, if_true, cellsOf_page]
      exact hK _
    iterate 2 (apply aops_step (by decide) rfl; · (intro K hK; simp (disch := first | omega | decide) only [go_sem, f0, f1, f2, hd, hso, cellsOf_page]; exact hK _))
    apply aops_merge' (by decide) (by exact want_of (d := 16) rfl (by simp (disch := first | omega | decide) only [go_sem, f0, f1, f2, hd, hso, opn_cond, cellsOf_page]; rfl))
    · intro hc K hK
      have hc2 := hc
      simp only [beq_iff_eq, decide_eq_true_eq, decide_eq_false_iff_not, Bool.or_eq_true, Bool.and_eq_true, Bool.or_eq_false_iff, Bool.and_eq_false_iff] at hc2
      simp (disch := first | omega | decide) only [go_sem, f0, f1, f2, hd, hso, opn_cond, hc, if_true, act_fieldAddr_t fo58_1, cellsOf_page]
      rw [mwp_fieldAddr_b (by simp (disch := first | omega | decide) only [go_sem, f0, f1, f2, hd, hso, opn_cond, hc, if_true, cellsOf_page]; rfl)]
      exact hK _
    apply aops_merge' (by decide) (by exact want_of (d := 16) rfl (by simp (disch := first | omega | decide) only [go_sem, f0, f1, f2, hd, hso, opn_cond, cellsOf_page]; rfl))
    · intro hc K hK
      have hc2 := hc
      simp only [beq_iff_eq, decide_eq_true_eq, decide_eq_false_iff_not, Bool.or_eq_true, Bool.and_eq_true, Bool.or_eq_false_iff, Bool.and_eq_false_iff] at hc2
      simp (disch := first | omega | decide) only [go_sem, f0, f1, f2, hd, hso, opn_cond, hc, if_true, act_load_t ti3, cellsOf_page]
      rw [mwp_load_b1 (by simp (disch := first | omega | decide) only [go_sem, f0, f1, f2, hd, hso, opn_cond, hc, if_true, cellsOf_page]; rfl) (by rfl)]
      exact hK _
    apply aops_merge' (by decide) (by exact want_of (d := 16) rfl (by simp (disch := first | omega | decide) only [go_sem, f0, f1, f2, hd, hso, opn_cond, cellsOf_page]; rfl))
    · intro hc K hK
      have hc2 := hc
      simp only [beq_iff_eq, decide_eq_true_eq, decide_eq_false_iff_not, Bool.or_eq_true, Bool.and_eq_true, Bool.or_eq_false_iff, Bool.and_eq_false_iff] at hc2
      simp (disch := first | omega | decide) only [go_sem, f0, f1, f2, hd, hso, opn_cond, hc, if_true, act_fieldAddr_t fo58_1, cellsOf_page]
      rw [mwp_fieldAddr_b (by simp (disch := first | omega | decide) only [go_sem, f0, f1, f2, hd, hso, opn_cond, hc, if_true, cellsOf_page]; rfl)]
      exact hK _
    apply aops_merge' (by decide) (by exact want_of (d := 16) rfl (by simp (disch := first | omega | decide) only [go_sem, f0, f1, f2, hd, hso, opn_cond, cellsOf_page]; rfl))
    · intro hc K hK
      have hc2 := hc
      simp only [beq_iff_eq, decide_eq_true_eq, decide_eq_false_iff_not, Bool.or_eq_true, Bool.and_eq_true, Bool.or_eq_false_iff, Bool.and_eq_false_iff] at hc2
      simp (disch := first | omega | decide) only [go_sem, f0, f1, f2, hd, hso, opn_cond, hc, if_true, act_load_t ti3, cellsOf_page]
      rw [mwp_load_b1 (by simp (disch := first | omega | decide) only [go_sem, f0, f1, f2, hd, hso, opn_cond, hc, if_true, cellsOf_page]; rfl) (by rfl)]
      exact hK _
    apply aops_merge' (by decide) (by exact want_of (d := 16) rfl (by simp (disch := first | omega | decide) only [go_sem, f0, f1, f2, hd, hso, opn_cond, cellsOf_page]; rfl))
    · intro hc K hK
      have hc2 := hc
      simp only [beq_iff_eq, decide_eq_true_eq, decide_eq_false_iff_not, Bool.or_eq_true, Bool.and_eq_true, Bool.or_eq_false_iff, Bool.and_eq_false_iff] at hc2
      simp (disch := first | omega | decide) only [go_sem, f0, f1, f2, hd, hso, opn_cond, hc, if_true, cellsOf_page]
      exact hK _
    iterate 2 (apply aops_step (by decide) rfl; · (intro K hK; simp (disch := first | omega | decide) only [go_sem, f0, f1, f2, hd, hso, cellsOf_page]; exact hK _))
    apply aops_merge' (by decide) (by exact want_of (d := 23) rfl (by simp (disch := first | omega | decide) only [go_sem, f0, f1, f2, hd, hso, opn_cond, cellsOf_page]; rfl))
    · intro hc K hK
      have hc2 := hc
      simp only [beq_iff_eq, decide_eq_true_eq, decide_eq_false_iff_not, Bool.or_eq_true, Bool.and_eq_true, Bool.or_eq_false_iff, Bool.and_eq_false_iff] at hc2
      simp (disch := first | omega | decide) only [go_sem, f0, f1, f2, hd, hso, opn_cond, hc, if_true, act_fieldAddr_t fo58_2, cellsOf_page]
      rw [mwp_fieldAddr_b (by simp (disch := first | omega | decide) only [go_sem, f0, f1, f2, hd, hso, opn_cond, hc, if_true, cellsOf_page]; rfl)]
      exact hK _
    apply aops_merge' (by decide) (by exact want_of (d := 23) rfl (by simp (disch := first | omega | decide) only [go_sem, f0, f1, f2, hd, hso, opn_cond, cellsOf_page]; rfl))
    · intro hc K hK
      have hc2 := hc
      simp only [beq_iff_eq, decide_eq_true_eq, decide_eq_false_iff_not, Bool.or_eq_true, Bool.and_eq_true, Bool.or_eq_false_iff, Bool.and_eq_false_iff] at hc2
      simp (disch := first | omega | decide) only [go_sem, f0, f1, f2, hd, hso, opn_cond, hc, if_true, act_load_t ti3, cellsOf_page]
      rw [mwp_load_b1 (by simp (disch := first | omega | decide) only [go_sem, f0, f1, f2, hd, hso, opn_cond, hc, if_true, cellsOf_page]; rfl) (by rfl)]
      exact hK _
    apply aops_merge' (by decide) (by exact want_of (d := 23) rfl (by simp (disch := first | omega | decide) only [go_sem, f0, f1, f2, hd, hso, opn_cond, cellsOf_page]; rfl))
    · intro hc K hK
      have hc2 := hc
      simp only [beq_iff_eq, decide_eq_true_eq, decide_eq_false_iff_not, Bool.or_eq_true, Bool.and_eq_true, Bool.or_eq_false_iff, Bool.and_eq_false_iff] at hc2
      simp (disch := first | omega | decide) only [go_sem, f0, f1, f2, hd, hso, opn_cond, hc, if_true, act_fieldAddr_t fo58_2, cellsOf_page]
      rw [mwp_fieldAddr_b (by simp (disch := first | omega | decide) only [go_sem, f0, f1, f2, hd, hso, opn_cond, hc, if_true, cellsOf_page]; rfl)]
      exact hK _
    apply aops_merge' (by decide) (by exact want_of (d := 23) rfl (by simp (disch := first | omega | decide) only [go_sem, f0, f1, f2, hd, hso, opn_cond, cellsOf_page]; rfl))
    · intro hc K hK
      have hc2 := hc
      simp only [beq_iff_eq, decide_eq_true_eq, decide_eq_false_iff_not, Bool.or_eq_true, Bool.and_eq_true, Bool.or_eq_false_iff, Bool.and_eq_false_iff] at hc2
      simp (disch := first | omega | decide) only [go_sem, f0, f1, f2, hd, hso, opn_cond, hc, if_true, act_load_t ti3, cellsOf_page]
      rw [mwp_load_b1 (by simp (disch := first | omega | decide) only [go_sem, f0, f1, f2, hd, hso, opn_cond, hc, if_true, cellsOf_page]; rfl) (by rfl)]
      exact hK _
    apply aops_merge' (by decide) (by exact want_of (d := 23) rfl (by simp (disch := first | omega | decide) only [go_sem, f0, f1, f2, hd, hso, opn_cond, cellsOf_page]; rfl))
    · intro hc K hK
      have hc2 := hc
      simp only [beq_iff_eq, decide_eq_true_eq, decide_eq_false_iff_not, Bool.or_eq_true, Bool.and_eq_true, Bool.or_eq_false_iff, Bool.and_eq_false_iff] at hc2
      simp (disch := first | omega | decide) only [go_sem, f0, f1, f2, hd, hso, opn_cond, hc, if_true, cellsOf_page]
      exact hK _
    iterate 2 (apply aops_step (by decide) rfl; · (intro K hK; simp (disch := first | omega | decide) only [go_sem, f0, f1, f2, hd, hso, cellsOf_page]; exact hK _))
    apply aops_merge' (by decide) (by exact want_of (d := 30) rfl (by simp (disch := first | omega | decide) only [go_sem, f0, f1, f2, hd, hso, opn_cond, cellsOf_page]; rfl))
    · intro hc K hK
      have hc2 := hc
      simp only [beq_iff_eq, decide_eq_true_eq, decide_eq_false_iff_not, Bool.or_eq_true, Bool.and_eq_true, Bool.or_eq_false_iff, Bool.and_eq_false_iff] at hc2
      simp (disch := first | omega | decide) only [go_sem, f0, f1, f2, hd, hso, opn_cond, hc, if_true, act_fieldAddr_t fo58_3, cellsOf_page]
      rw [mwp_fieldAddr_b (by simp (disch := first | omega | decide) only [go_sem, f0, f1, f2, hd, hso, opn_cond, hc, if_true, cellsOf_page]; rfl)]
      exact hK _
    apply aops_merge' (by decide) (by exact want_of (d := 30) rfl (by simp (disch := first | omega | decide) only [go_sem, f0, f1, f2, hd, hso, opn_cond, cellsOf_page]; rfl))
    · intro hc K hK
      have hc2 := hc
      simp only [beq_iff_eq, decide_eq_true_eq, decide_eq_false_iff_not, Bool.or_eq_true, Bool.and_eq_true, Bool.or_eq_false_iff, Bool.and_eq_false_iff] at hc2
      simp (disch := first | omega | decide) only [go_sem, f0, f1, f2, hd, hso, opn_cond, hc, if_true, act_load_t ti3, cellsOf_page]
      rw [mwp_load_b1 (by simp (disch := first | omega | decide) only [go_sem, f0, f1, f2, hd, hso, opn_cond, hc, if_true, cellsOf_page]; rfl) (by rfl)]
      exact hK _
    apply aops_merge' (by decide) (by exact want_of (d := 30) rfl (by simp (disch := first | omega | decide) only [go_sem, f0, f1, f2, hd, hso, opn_cond, cellsOf_page]; rfl))
    · intro hc K hK
      have hc2 := hc
      simp only [beq_iff_eq, decide_eq_true_eq, decide_eq_false_iff_not, Bool.or_eq_true, Bool.and_eq_true, Bool.or_eq_false_iff, Bool.and_eq_false_iff] at hc2
      simp (disch := first | omega | decide) only [go_sem, f0, f1, f2, hd, hso, opn_cond, hc, if_true, cellsOf_page]
      exact hK _
    apply aops_merge' (by decide) (by exact want_of (d := 30) rfl (by simp (disch := first | omega | decide) only [go_sem, f0, f1, f2, hd, hso, opn_cond, cellsOf_page]; rfl))
    · intro hc K hK
      have hc2 := hc
      simp only [beq_iff_eq, decide_eq_true_eq, decide_eq_false_iff_not, Bool.or_eq_true, Bool.and_eq_true, Bool.or_eq_false_iff, Bool.and_eq_false_iff] at hc2
      simp (disch := first | omega | decide) only [go_sem, f0, f1, f2, hd, hso, opn_cond, hc, if_true, cellsOf_page]
      exact hK _
    apply aops_merge' (by decide) (by exact want_of (d := 30) rfl (by simp (disch := first | omega | decide) only [go_sem, f0, f1, f2, hd, hso, opn_cond, cellsOf_page]; rfl))
    · intro hc K hK
      have hc2 := hc
      simp only [beq_iff_eq, decide_eq_true_eq, decide_eq_false_iff_not, Bool.or_eq_true, Bool.and_eq_true, Bool.or_eq_false_iff, Bool.and_eq_false_iff] at hc2
      simp (disch := first | omega | decide) only [go_sem, f0, f1, f2, hd, hso, opn_cond, hc, if_true, act_fieldAddr_t fo58_3, cellsOf_page]
      rw [mwp_fieldAddr_b (by simp (disch := first | omega | decide) only [go_sem, f0, f1, f2, hd, hso, opn_cond, hc, if_true, cellsOf_page]; rfl)]
      exact hK _
    apply aops_merge' (by decide) (by exact want_of (d := 30) rfl (by simp (disch := first | omega | decide) only [go_sem, f0, f1, f2, hd, hso, opn_cond, cellsOf_page]; rfl))
    · intro hc K hK
      have hc2 := hc
      simp only [beq_iff_eq, decide_eq_true_eq, decide_eq_false_iff_not, Bool.or_eq_true, Bool.and_eq_true, Bool.or_eq_false_iff, Bool.and_eq_false_iff] at hc2
      simp (disch := first | omega | decide) only [go_sem, f0, f1, f2, hd, hso, opn_cond, hc, if_true, act_load_t ti3, cellsOf_page]
      rw [mwp_load_b1 (by simp (disch := first | omega | decide) only [go_sem, f0, f1, f2, hd, hso, opn_cond, hc, if_true, cellsOf_page]; rfl) (by rfl)]
      exact hK _
    apply aops_merge' (by decide) (by exact want_of (d := 30) rfl (by simp (disch := first | omega | decide) only [go_sem, f0, f1, f2, hd, hso, opn_cond, cellsOf_page]; rfl))
    · intro hc K hK
      have hc2 := hc
      simp only [beq_iff_eq, decide_eq_true_eq, decide_eq_false_iff_not, Bool.or_eq_true, Bool.and_eq_true, Bool.or_eq_false_iff, Bool.and_eq_false_iff] at hc2
      simp (disch := first | omega | decide) only [go_sem, f0, f1, f2, hd, hso, opn_cond, hc, if_true, cellsOf_page]
      exact hK _
    iterate 2 (apply aops_step (by decide) rfl; · (intro K hK; simp (disch := first | omega | decide) only [go_sem, f0, f1, f2, hd, hso, cellsOf_page]; exact hK _))
    apply aops_merge' (by decide) (by exact want_of (d := 39) rfl (by simp (disch := first | omega | decide) only [go_sem, f0, f1, f2, hd, hso, opn_cond, cellsOf_page]; rfl))
    · intro hc K hK
      have hc2 := hc
      simp only [beq_iff_eq, decide_eq_true_eq, decide_eq_false_iff_not, Bool.or_eq_true, Bool.and_eq_true, Bool.or_eq_false_iff, Bool.and_eq_false_iff] at hc2
      simp (disch := first | omega | decide) only [go_sem, f0, f1, f2, hd, hso, opn_cond, hc, if_true, act_fieldAddr_t fo58_4, cellsOf_page]
      rw [mwp_fieldAddr_b (by simp (disch := first | omega | decide) only [go_sem, f0, f1, f2, hd, hso, opn_cond, hc, if_true, cellsOf_page]; rfl)]
      exact hK _
    apply aops_merge' (by decide) (by exact want_of (d := 39) rfl (by simp (disch := first | omega | decide) only [go_sem, f0, f1, f2, hd, hso, opn_cond, cellsOf_page]; rfl))
    · intro hc K hK
      have hc2 := hc
      simp only [beq_iff_eq, decide_eq_true_eq, decide_eq_false_iff_not, Bool.or_eq_true, Bool.and_eq_true, Bool.or_eq_false_iff, Bool.and_eq_false_iff] at hc2
      simp (disch := first | omega | decide) only [go_sem, f0, f1, f2, hd, hso, opn_cond, hc, if_true, act_load_t ti3, cellsOf_page]
      rw [mwp_load_b1 (by simp (disch := first | omega | decide) only [go_sem, f0, f1, f2, hd, hso, opn_cond, hc, if_true, cellsOf_page]; rfl) (by rfl)]
      exact hK _
    apply aops_merge' (by decide) (by exact want_of (d := 39) rfl (by simp (disch := first | omega | decide) only [go_sem, f0, f1, f2, hd, hso, opn_cond, cellsOf_page]; rfl))
    · intro hc K hK
      have hc2 := hc
      simp only [beq_iff_eq, decide_eq_true_eq, decide_eq_false_iff_not, Bool.or_eq_true, Bool.and_eq_true, Bool.or_eq_false_iff, Bool.and_eq_false_iff] at hc2
      simp (disch := first | omega | decide) only [go_sem, f0, f1, f2, hd, hso, opn_cond, hc, if_true, cellsOf_page]
      exact hK _
    apply aops_merge' (by decide) (by exact want_of (d := 39) rfl (by simp (disch := first | omega | decide) only [go_sem, f0, f1, f2, hd, hso, opn_cond, cellsOf_page]; rfl))
    · intro hc K hK
      have hc2 := hc
      simp only [beq_iff_eq, decide_eq_true_eq, decide_eq_false_iff_not, Bool.or_eq_true, Bool.and_eq_true, Bool.or_eq_false_iff, Bool.and_eq_false_iff] at hc2
      simp (disch := first | omega | decide) only [go_sem, f0, f1, f2, hd, hso, opn_cond, hc, if_true, cellsOf_page]
      exact hK _
    iterate 2 (apply aops_step (by decide) rfl; · (intro K hK; simp (disch := first | omega | decide) only [go_sem, f0, f1, f2, hd, hso, cellsOf_page]; exact hK _))
    apply aops_merge' (by decide) (by exact want_of (d := 45) rfl (by simp (disch := first | omega | decide) only [go_sem, f0, f1, f2, hd, hso, opn_cond, cellsOf_page]; rfl))
    · intro hc K hK
      have hc2 := hc
      simp only [beq_iff_eq, decide_eq_true_eq, decide_eq_false_iff_not, Bool.or_eq_true, Bool.and_eq_true, Bool.or_eq_false_iff, Bool.and_eq_false_iff] at hc2
      simp (disch := first | omega | decide) only [go_sem, f0, f1, f2, hd, hso, opn_cond, hc, if_true, act_fieldAddr_t fo58_5, cellsOf_page]
      rw [mwp_fieldAddr_b (by simp (disch := first | omega | decide) only [go_sem, f0, f1, f2, hd, hso, opn_cond, hc, if_true, cellsOf_page]; rfl)]
      exact hK _
    apply aops_merge' (by decide) (by exact want_of (d := 45) rfl (by simp (disch := first | omega | decide) only [go_sem, f0, f1, f2, hd, hso, opn_cond, cellsOf_page]; rfl))
    · intro hc K hK
      have hc2 := hc
      simp only [beq_iff_eq, decide_eq_true_eq, decide_eq_false_iff_not, Bool.or_eq_true, Bool.and_eq_true, Bool.or_eq_false_iff, Bool.and_eq_false_iff] at hc2
      simp (disch := first | omega | decide) only [go_sem, f0, f1, f2, hd, hso, opn_cond, hc, if_true, act_load_t ti3, cellsOf_page]
      rw [mwp_load_b1 (by simp (disch := first | omega | decide) only [go_sem, f0, f1, f2, hd, hso, opn_cond, hc, if_true, cellsOf_page]; rfl) (by rfl)]
      exact hK _
    apply aops_merge' (by decide) (by exact want_of (d := 45) rfl (by simp (disch := first | omega | decide) only [go_sem, f0, f1, f2, hd, hso, opn_cond, cellsOf_page]; rfl))
    · intro hc K hK
      have hc2 := hc
      simp only [beq_iff_eq, decide_eq_true_eq, decide_eq_false_iff_not, Bool.or_eq_true, Bool.and_eq_true, Bool.or_eq_false_iff, Bool.and_eq_false_iff] at hc2
      simp (disch := first | omega | decide) only [go_sem, f0, f1, f2, hd, hso, opn_cond, hc, if_true, act_fieldAddr_t fo58_5, cellsOf_page]
      rw [mwp_fieldAddr_b (by simp (disch := first | omega | decide) only [go_sem, f0, f1, f2, hd, hso, opn_cond, hc, if_true, cellsOf_page]; rfl)]
      exact hK _
    apply aops_merge' (by decide) (by exact want_of (d := 45) rfl (by simp (disch := first | omega | decide) only [go_sem, f0, f1, f2, hd, hso, opn_cond, cellsOf_page]; rfl))
    · intro hc K hK
      have hc2 := hc
      simp only [beq_iff_eq, decide_eq_true_eq, decide_eq_false_iff_not, Bool.or_eq_true, Bool.and_eq_true, Bool.or_eq_false_iff, Bool.and_eq_false_iff] at hc2
      simp (disch := first | omega | decide) only [go_sem, f0, f1, f2, hd, hso, opn_cond, hc, if_true, act_load_t ti3, cellsOf_page]
      rw [mwp_load_b1 (by simp (disch := first | omega | decide) only [go_sem, f0, f1, f2, hd, hso, opn_cond, hc, if_true, cellsOf_page]; rfl) (by rfl)]
      exact hK _
    apply aops_merge' (by decide) (by exact want_of (d := 45) rfl (by simp (disch := first | omega | decide) only [go_sem, f0, f1, f2, hd, hso, opn_cond, cellsOf_page]; rfl))
    · intro hc K hK
      have hc2 := hc
      simp only [beq_iff_eq, decide_eq_true_eq, decide_eq_false_iff_not, Bool.or_eq_true, Bool.and_eq_true, Bool.or_eq_false_iff, Bool.and_eq_false_iff] at hc2
      simp (disch := first | omega | decide) only [go_sem, f0, f1, f2, hd, hso, opn_cond, hc, if_true, cellsOf_page]
      exact hK _
    iterate 2 (apply aops_step (by decide) rfl; · (intro K hK; simp (disch := first | omega | decide) only [go_sem, f0, f1, f2, hd, hso, cellsOf_page]; exact hK _))
    apply aops_merge' (by decide) (by exact want_of (d := 52) rfl (by simp (disch := first | omega | decide) only [go_sem, f0, f1, f2, hd, hso, opn_cond, cellsOf_page]; rfl))
    · intro hc K hK
      have hc2 := hc
      simp only [beq_iff_eq, decide_eq_true_eq, decide_eq_false_iff_not, Bool.or_eq_true, Bool.and_eq_true, Bool.or_eq_false_iff, Bool.and_eq_false_iff] at hc2
      simp (disch := first | omega | decide) only [go_sem, f0, f1, f2, hd, hso, opn_cond, hc, if_true, cellsOf_page]
      exact hK _
    apply aops_merge' (by decide) (by exact want_of (d := 52) rfl (by simp (disch := first | omega | decide) only [go_sem, f0, f1, f2, hd, hso, opn_cond, cellsOf_page]; rfl))
    · intro hc K hK
      have hc2 := hc
      simp only [beq_iff_eq, decide_eq_true_eq, decide_eq_false_iff_not, Bool.or_eq_true, Bool.and_eq_true, Bool.or_eq_false_iff, Bool.and_eq_false_iff] at hc2
      simp (disch := first | omega | decide) only [go_sem, f0, f1, f2, hd, hso, opn_cond, hc, if_true, act_fieldAddr_t fo58_5, cellsOf_page]
      rw [mwp_fieldAddr_b (by simp (disch := first | omega | decide) only [go_sem, f0, f1, f2, hd, hso, opn_cond, hc, if_true, cellsOf_page]; rfl)]
      exact hK _
    apply aops_merge' (by decide) (by exact want_of (d := 52) rfl (by simp (disch := first | omega | decide) only [go_sem, f0, f1, f2, hd, hso, opn_cond, cellsOf_page]; rfl))
    · intro hc K hK
      have hc2 := hc
      simp only [beq_iff_eq, decide_eq_true_eq, decide_eq_false_iff_not, Bool.or_eq_true, Bool.and_eq_true, Bool.or_eq_false_iff, Bool.and_eq_false_iff] at hc2
      simp (disch := first | omega | decide) only [go_sem, f0, f1, f2, hd, hso, opn_cond, hc, if_true, act_load_t ti3, cellsOf_page]
      rw [mwp_load_b1 (by simp (disch := first | omega | decide) only [go_sem, f0, f1, f2, hd, hso, opn_cond, hc, if_true, cellsOf_page]; rfl) (by rfl)]
      exact hK _
    apply aops_merge' (by decide) (by exact want_of (d := 52) rfl (by simp (disch := first | omega | decide) only [go_sem, f0, f1, f2, hd, hso, opn_cond, cellsOf_page]; rfl))
    · intro hc K hK
      have hc2 := hc
      simp only [beq_iff_eq, decide_eq_true_eq, decide_eq_false_iff_not, Bool.or_eq_true, Bool.and_eq_true, Bool.or_eq_false_iff, Bool.and_eq_false_iff] at hc2
      simp (disch := first | omega | decide) only [go_sem, f0, f1, f2, hd, hso, opn_cond, hc, if_true, cellsOf_page]
      exact hK _
    apply aops_merge' (by decide) (by exact want_of (d := 52) rfl (by simp (disch := first | omega | decide) only [go_sem, f0, f1, f2, hd, hso, opn_cond, cellsOf_page]; rfl))
    · intro hc K hK
      have hc2 := hc
      simp only [beq_iff_eq, decide_eq_true_eq, decide_eq_false_iff_not, Bool.or_eq_true, Bool.and_eq_true, Bool.or_eq_false_iff, Bool.and_eq_false_iff] at hc2
      simp (disch := first | omega | decide) only [go_sem, f0, f1, f2, hd, hso, opn_cond, hc, if_true, cellsOf_page]
      exact hK _
    apply aops_merge' (by decide) (by exact want_of (d := 52) rfl (by simp (disch := first | omega | decide) only [go_sem, f0, f1, f2, hd, hso, opn_cond, cellsOf_page]; rfl))
    · intro hc K hK
      have hc2 := hc
      simp only [beq_iff_eq, decide_eq_true_eq, decide_eq_false_iff_not, Bool.or_eq_true, Bool.and_eq_true, Bool.or_eq_false_iff, Bool.and_eq_false_iff] at hc2
      simp (disch := first | omega | decide) only [go_sem, f0, f1, f2, hd, hso, opn_cond, hc, if_true, cellsOf_page]
      exact hK _
    apply aops_merge' (by decide) (by exact want_of_cond (d := 58) rfl (by simp (disch := first | omega | decide) only [go_sem, f0, f1, f2, hd, hso, opn_cond, cellsOf_page]; rfl))
    · intro hc K hK
      have hc2 := hc
      simp only [beq_iff_eq, decide_eq_true_eq, decide_eq_false_iff_not, Bool.or_eq_true, Bool.and_eq_true, Bool.or_eq_false_iff, Bool.and_eq_false_iff] at hc2
      simp (disch := first | omega | decide) only [go_sem, f0, f1, f2, hd, hso, opn_cond, hc, if_true, act_fieldAddr_t fo58_6, cellsOf_page]
      rw [mwp_fieldAddr_b (by simp (disch := first | omega | decide) only [go_sem, f0, f1, f2, hd, hso, opn_cond, hc, if_true, cellsOf_page]; rfl)]
      exact hK _
    apply aops_merge' (by decide) (by exact want_of_cond (d := 58) rfl (by simp (disch := first | omega | decide) only [go_sem, f0, f1, f2, hd, hso, opn_cond, cellsOf_page]; rfl))
    · intro hc K hK
      have hc2 := hc
      simp only [beq_iff_eq, decide_eq_true_eq, decide_eq_false_iff_not, Bool.or_eq_true, Bool.and_eq_true, Bool.or_eq_false_iff, Bool.and_eq_false_iff] at hc2
      simp (disch := first | omega | decide) only [go_sem, f0, f1, f2, hd, hso, opn_cond, hc, if_true, act_load_t ti22, cellsOf_page]
      rw [mwp_load_b1 (by simp (disch := first | omega | decide) only [go_sem, f0, f1, f2, hd, hso, opn_cond, hc, if_true, cellsOf_page]; rfl) (by rfl)]
      exact hK _
    apply aops_merge' (by decide) (by exact want_of_cond (d := 58) rfl (by simp (disch := first | omega | decide) only [go_sem, f0, f1, f2, hd, hso, opn_cond, cellsOf_page]; rfl))
    · intro hc K hK
      have hc2 := hc
      simp only [beq_iff_eq, decide_eq_true_eq, decide_eq_false_iff_not, Bool.or_eq_true, Bool.and_eq_true, Bool.or_eq_false_iff, Bool.and_eq_false_iff] at hc2
      simp (disch := first | omega | decide) only [go_sem, f0, f1, f2, hd, hso, opn_cond, hc, if_true, List.map, List.length_map, aops_len u22, cellsOf_page]
      exact hK _
    apply aops_merge' (by decide) (by exact want_of_cond (d := 58) rfl (by simp (disch := first | omega | decide) only [go_sem, f0, f1, f2, hd, hso, opn_cond, cellsOf_page]; rfl))
    · intro hc K hK
      have hc2 := hc
      simp only [beq_iff_eq, decide_eq_true_eq, decide_eq_false_iff_not, Bool.or_eq_true, Bool.and_eq_true, Bool.or_eq_false_iff, Bool.and_eq_false_iff] at hc2
      simp (disch := first | omega | decide) only [go_sem, f0, f1, f2, hd, hso, opn_cond, hc, if_true, cellsOf_page]
      exact hK _
    apply aops_merge' (by decide) (by exact want_of (d := 52) rfl (by simp (disch := first | omega | decide) only [go_sem, f0, f1, f2, hd, hso, opn_cond, cellsOf_page]; rfl))
    · intro hc K hK
      have hc2 := hc
      simp only [beq_iff_eq, decide_eq_true_eq, decide_eq_false_iff_not, Bool.or_eq_true, Bool.and_eq_true, Bool.or_eq_false_iff, Bool.and_eq_false_iff] at hc2
      simp (disch := first | omega | decide) only [go_sem, f0, f1, f2, hd, hso, opn_cond, hc, if_true, cellsOf_page]
      exact hK _
    iterate 2 (apply aops_step (by decide) rfl; · (intro K hK; simp (disch := first | omega | decide) only [go_sem, f0, f1, f2, hd, hso, cellsOf_page]; exact hK _))
    refine aops_nil ?_
    refine AW.ret ?_
    refine ⟨.inr rfl, ?_⟩
    refine leaves_tmp1 6 rfl ?_ (by exact hG)
    simp (disch := first | omega | decide) only [go_sem, f0, f1, f2, hd, hso, cellsOf_page]
    all_goals (simp only [follows, hso, Bool.true_and, Bool.and_assoc]; done)
  · have hd := decide_eq_false hsp
    have hsp := Bool.eq_false_iff.2 hsp
    have hso := hsp
    refine AW.region (cfg := cfg) ?_
    apply aops_step (by decide) rfl
    · intro K hK
      simp (disch := first | omega | decide) only [go_sem, f0, f1, f2, hd, hso, act_load_t ti58, List.map, cellsOf_page]
      rw [mwp_load_bs (by simp (disch := first | omega | decide) only [go_sem, f0, f1, f2, hd, hso, cellsOf_page]; rfl) (by simp [setAt])]
      exact hK _
    apply aops_step (by decide) rfl
    · intro K hK
      simp (disch := first | omega | decide) only [go_sem, f0, f1, f2, hd, hso, act_call, List.map, cellsOf_page]
      apply mwp_call_s rfl rfl rfl
      · intro Q hQ
        (simp (disch := first | omega | decide) only [go_sem, f0, f1, f2, hd, hso, peekL, reifyL_nil, reifyL_cons, reify_v, cellsOf_page]; (exact hQ))
      · exact good_right p (by omega)
      · simp [-List.map_take, -List.map_drop, -List.map_append, -List.map_replicate, -List.reduceReplicate, noPtrL, noPtr, noPtrL_bsl, noPtrL_map, sub]
      · rfl
      · exact hK _
    iterate 1 (apply aops_step (by decide) rfl; · (intro K hK; simp (disch := first | omega | decide) only [go_sem, f0, f1, f2, hd, hso, cellsOf_page]; exact hK _))
    apply aops_skip' (by decide) rfl
    apply aops_skip' (by decide) rfl
    apply aops_skip' (by decide) rfl
    apply aops_skip' (by decide) rfl
    apply aops_skip' (by decide) rfl
    iterate 2 (apply aops_step (by decide) rfl; · (intro K hK; simp (disch := first | omega | decide) only [go_sem, f0, f1, f2, hd, hso, cellsOf_page]; exact hK _))
    apply aops_skip' (by decide) rfl
    apply aops_skip' (by decide) rfl
    apply aops_skip' (by decide) rfl
    apply aops_skip' (by decide) rfl
    apply aops_skip' (by decide) rfl
    iterate 2 (apply aops_step (by decide) rfl; · (intro K hK; simp (disch := first | omega | decide) only [go_sem, f0, f1, f2, hd, hso, cellsOf_page]; exact hK _))
    apply aops_skip' (by decide) rfl
    apply aops_skip' (by decide) rfl
    apply aops_skip' (by decide) rfl
    apply aops_skip' (by decide) rfl
    apply aops_skip' (by decide) rfl
    iterate 2 (apply aops_step (by decide) rfl; · (intro K hK; simp (disch := first | omega | decide) only [go_sem, f0, f1, f2, hd, hso, cellsOf_page]; exact hK _))
    apply aops_skip' (by decide) rfl
    apply aops_skip' (by decide) rfl
    apply aops_skip' (by decide) rfl
    apply aops_skip' (by decide) rfl
    apply aops_skip' (by decide) rfl
    apply aops_skip' (by decide) rfl
    apply aops_skip' (by decide) rfl
    iterate 2 (apply aops_step (by decide) rfl; · (intro K hK; simp (disch := first | omega | decide) only [go_sem, f0, f1, f2, hd, hso, cellsOf_page]; exact hK _))
    apply aops_skip' (by decide) rfl
    apply aops_skip' (by decide) rfl
    apply aops_skip' (by decide) rfl
    apply aops_skip' (by decide) rfl
    iterate 2 (apply aops_step (by decide) rfl; · (intro K hK; simp (disch := first | omega | decide) only [go_sem, f0, f1, f2, hd, hso, cellsOf_page]; exact hK _))
    apply aops_skip' (by decide) rfl
    apply aops_skip' (by decide) rfl
    apply aops_skip' (by decide) rfl
    apply aops_skip' (by decide) rfl
    apply aops_skip' (by decide) rfl
    iterate 2 (apply aops_step (by decide) rfl; · (intro K hK; simp (disch := first | omega | decide) only [go_sem, f0, f1, f2, hd, hso, cellsOf_page]; exact hK _))
    apply aops_skip' (by decide) rfl
    apply aops_skip' (by decide) rfl
    apply aops_skip' (by decide) rfl
    apply aops_skip' (by decide) rfl
    apply aops_skip' (by decide) rfl
    apply aops_skip' (by decide) rfl
    apply aops_skip' (by decide) rfl
    apply aops_skip' (by decide) rfl
    apply aops_skip' (by decide) rfl
    apply aops_skip' (by decide) rfl
    apply aops_skip' (by decide) rfl
    iterate 2 (apply aops_step (by decide) rfl; · (intro K hK; simp (disch := first | omega | decide) only [go_sem, f0, f1, f2, hd, hso, cellsOf_page]; exact hK _))
    refine aops_nil ?_
    refine AW.ret ?_
    refine ⟨.inr rfl, ?_⟩
    refine leaves_tmp1 6 rfl ?_ (by exact hG)
    simp (disch := first | omega | decide) only [go_sem, f0, f1, f2, hd, hso, cellsOf_page]
    all_goals (simp only [follows, hso, Bool.false_and]; done)

end Go.Vai.R
