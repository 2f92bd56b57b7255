import Derived.Test.YtblgcekomnnfmaagSeal2
import Derived.Test.YtblgcekomnnfmaaPageBk
import Derived.Test.YtblgcekomnnfmaagDs
import Derived.Test.YtblgcekomnnfmaaVaiD
namespace Go.Vai.G
open Go.Proofs Go.Vai Go.Vai.L Go.Vai.O Go.Vai.U Go.Vai.Z
set_option linter.unusedSimpArgs false
set_option linter.unusedVariables false

theorem cellsOf_u8 (x : BitVec 8) : cellsOf (u8 x) = [u8 x] := rfl
def hasP (a b : List (BitVec 8)) : Bool := decide ((a.length : Int) ≥ (b.length : Int)) && decide (a.take b.length = b)
def nz (x : BitVec 8) : Bool := decide ((x.toNat : Int) ≠ 0)
theorem take_ofNat {α : Type} (l : List α) (n : Nat) : l.take ((n : Int)).toNat = l.take n := by rw [Int.toNat_natCast]
set_option maxHeartbeats 4000000 in
set_option maxRecDepth 100000 in
theorem good_BEqual (na nb : Bool) (a b : List (BitVec 8)) (ha : a.length ≤ 9223372036854775807) (hb : b.length ≤ 9223372036854775807) : Good Try.prog 100 [(.sl 1 na (bsl a), false), (.sl 1 nb (bsl b), false)] [] [(.b (decide (a = b)), false)] [] := by
  refine good_of_body2 10 Try.func100 rfl rfl rfl (by simp) ?_
  intro s m ha hr hv hG
  have f0 : s 0 = .v (.sl 1 na (bsl a)) := ha 0 _ rfl
  have f1 : s 1 = .v (.sl 1 nb (bsl b)) := ha 1 _ rfl
  clear ha
  refine AW.seq ?_
  refine AW.region (cfg := cfg) ?_
  iterate 1 (apply aops_step (by decide) rfl; · (intro K hK; simp (disch := first | omega | decide) only [go_sem, f0, f1]; exact hK _))
  refine aops_nil ?_
  refine AW.seq ?_
  refine AW.region (cfg := cfg) ?_
  iterate 6 (apply aops_step (by decide) rfl; · (intro K hK; simp (disch := first | omega | decide) only [go_sem, f0, f1, act_convS u22 u5 u9, strL_bsl, bin_eql_str]; exact hK _))
  refine aops_nil ?_
  refine AW.ret ?_
  refine ⟨.inr rfl, ?_⟩
  refine leaves_tmp1 4 rfl ?_ (by exact hG)
  simp (disch := first | omega | decide) only [go_sem, f0, f1]
  all_goals first | done | rfl | trace_state

set_option maxHeartbeats 4000000 in
set_option maxRecDepth 100000 in
theorem good_HasPrefix (na nb : Bool) (a b : List (BitVec 8)) (ha : a.length ≤ 9223372036854775807) (hb : b.length ≤ 9223372036854775807) : Good Try.prog 89 [(.sl 1 na (bsl a), false), (.sl 1 nb (bsl b), false)] [] [(.b (hasP a b), false)] [] := by
  refine good_of_body2 18 Try.func89 rfl rfl rfl (by simp) ?_
  intro s m ha hr hv hG
  have f0 : s 0 = .v (.sl 1 na (bsl a)) := ha 0 _ rfl
  have f1 : s 1 = .v (.sl 1 nb (bsl b)) := ha 1 _ rfl
  clear ha
  refine AW.seq ?_
  refine AW.region (cfg := cfg) ?_
  iterate 1 (apply aops_step (by decide) rfl; · (intro K hK; simp (disch := first | omega | decide) only [go_sem, f0, f1, take_ofNat]; exact hK _))
  refine aops_nil ?_
  refine AW.seq ?_
  refine AW.region (cfg := cfg) ?_
  iterate 6 (apply aops_step (by decide) rfl; · (intro K hK; simp (disch := first | omega | decide) only [go_sem, f0, f1, List.map, List.length_map, aops_len u22, take_ofNat]; exact hK _))
  apply aops_merge' (by decide) (by exact want_of (d := 10) rfl (by simp (disch := first | omega | decide) only [go_sem, f0, f1, opn_cond, take_ofNat]; rfl))
  · intro hc K hK
    have hc2 := hc
    simp only [beq_iff_eq, decide_eq_true_eq, decide_eq_false_iff_not, Bool.or_eq_true, Bool.and_eq_true, Bool.or_eq_false_iff, Bool.and_eq_false_iff] at hc2
    simp (disch := first | omega | decide) only [go_sem, f0, f1, opn_cond, hc, if_true, take_ofNat]
    exact hK _
  apply aops_merge' (by decide) (by exact want_of (d := 10) rfl (by simp (disch := first | omega | decide) only [go_sem, f0, f1, opn_cond, take_ofNat]; rfl))
  · intro hc K hK
    have hc2 := hc
    simp only [beq_iff_eq, decide_eq_true_eq, decide_eq_false_iff_not, Bool.or_eq_true, Bool.and_eq_true, Bool.or_eq_false_iff, Bool.and_eq_false_iff] at hc2
    simp (disch := first | omega | decide) only [go_sem, f0, f1, opn_cond, hc, if_true, take_ofNat]
    exact hK _
  apply aops_merge' (by decide) (by exact want_of (d := 10) rfl (by simp (disch := first | omega | decide) only [go_sem, f0, f1, opn_cond, take_ofNat]; rfl))
  · intro hc K hK
    have hc2 := hc
    simp only [beq_iff_eq, decide_eq_true_eq, decide_eq_false_iff_not, Bool.or_eq_true, Bool.and_eq_true, Bool.or_eq_false_iff, Bool.and_eq_false_iff] at hc2
    simp (disch := first | omega | decide) only [go_sem, f0, f1, opn_cond, hc, if_true, List.map, List.length_map, aops_len u22, take_ofNat]
    exact hK _
  apply aops_merge' (by decide) (by exact want_of (d := 10) rfl (by simp (disch := first | omega | decide) only [go_sem, f0, f1, opn_cond, take_ofNat]; rfl))
  · intro hc K hK
    have hc2 := hc
    simp only [beq_iff_eq, decide_eq_true_eq, decide_eq_false_iff_not, Bool.or_eq_true, Bool.and_eq_true, Bool.or_eq_false_iff, Bool.and_eq_false_iff] at hc2
    simp (disch := first | omega | decide) only [go_sem, f0, f1, opn_cond, hc, if_true, act_slice_s u22 ti5, take_ofNat]
    exact hK _
  apply aops_merge' (by decide) (by exact want_of (d := 10) rfl (by simp (disch := first | omega | decide) only [go_sem, f0, f1, opn_cond, take_ofNat]; rfl))
  · intro hc K hK
    have hc2 := hc
    simp only [beq_iff_eq, decide_eq_true_eq, decide_eq_false_iff_not, Bool.or_eq_true, Bool.and_eq_true, Bool.or_eq_false_iff, Bool.and_eq_false_iff] at hc2
    simp (disch := first | omega | decide) only [go_sem, f0, f1, opn_cond, hc, if_true, take_ofNat]
    exact hK _
  apply aops_merge' (by decide) (by exact want_of (d := 10) rfl (by simp (disch := first | omega | decide) only [go_sem, f0, f1, opn_cond, take_ofNat]; rfl))
  · intro hc K hK
    have hc2 := hc
    simp only [beq_iff_eq, decide_eq_true_eq, decide_eq_false_iff_not, Bool.or_eq_true, Bool.and_eq_true, Bool.or_eq_false_iff, Bool.and_eq_false_iff] at hc2
    simp (disch := first | omega | decide) only [go_sem, f0, f1, opn_cond, hc, if_true, act_call, List.map, take_ofNat]
    apply mwp_call_s rfl rfl rfl
    · intro Q hQ
      (simp (disch := first | omega | decide) only [go_sem, f0, f1, opn_cond, hc, if_true, peekL, reifyL_nil, reifyL_cons, reify_v, take_ofNat]; (exact hQ))
    · exact good_BEqual na nb (a.take b.length) b (by simp; omega) (by omega)
    · simp [-List.map_take, -List.map_drop, -List.map_append, -List.map_replicate, -List.reduceReplicate, noPtrL, noPtr, noPtrL_bsl, noPtrL_map, sub]
    · rfl
    · exact hK _
  iterate 2 (apply aops_step (by decide) rfl; · (intro K hK; simp (disch := first | omega | decide) only [go_sem, f0, f1, take_ofNat]; exact hK _))
  refine aops_nil ?_
  refine AW.ret ?_
  refine ⟨.inr rfl, ?_⟩
  refine leaves_tmp1 4 rfl ?_ (by exact hG)
  simp (disch := first | omega | decide) only [go_sem, f0, f1, take_ofNat]
  all_goals rfl

set_option maxHeartbeats 4000000 in
set_option maxRecDepth 100000 in
theorem good_IndexFuncByte (nil : Bool) (l : List (BitVec 8)) (f : FuncId) (caps : List AV) (p : (BitVec 8) → Bool) (hl : l.length ≤ 9223372036854775807) (hcn : noPtrL caps = true) (hpu : cfg.pure f = true) (hsc : cfg.scalar f = true) (hp : ∀ x ∈ l, Good Try.prog f (([u8 x] ++ caps).map fun a => (a, false)) [] [(.b (p x), false)] []) : Good Try.prog 101 [(.sl 1 nil (l.map u8), false), (.clo f caps, false)] [] [(i64 (findI p l), false)] [] := by
  refine good_of_body2 19 Try.func101 rfl rfl rfl (by simp) ?_
  intro s m ha hr hv hG
  have f0 : s 0 = .v (.sl 1 nil (l.map u8)) := ha 0 _ rfl
  have f1 : s 1 = .v (.clo f caps) := ha 1 _ rfl
  clear ha
  refine AW.seq ?_
  refine AW.region (cfg := cfg) ?_
  iterate 1 (apply aops_step (by decide) rfl; · (intro K hK; simp (disch := first | omega | decide) only [go_sem, f0, f1, cellsOf_u8]; exact hK _))
  refine aops_nil ?_
  refine AW.seq ?_
  refine AW.seq ?_
  refine AW.region (cfg := cfg) ?_
  iterate 3 (apply aops_step (by decide) rfl; · (intro K hK; simp (disch := first | omega | decide) only [go_sem, f0, f1, List.map, List.length_map, aops_len u22, cellsOf_u8]; exact hK _))
  refine aops_nil ?_
  refine AW.block ?_
  refine AW.forN (fun k σ => ∃ s m, σ = ⟨19, s, m⟩ ∧ s 0 = .v (.sl 1 nil (l.map u8)) ∧ s 1 = .v (.clo f caps) ∧ s 7 = .v (i64 (l.length : Int)) ∧ s 8 = .v (i64 (k : Int)) ∧ (∀ x ∈ l.take k, p x = false) ∧ m.G = []) (l.length) ?_ ?_ ?_
  · refine ⟨_, _, rfl, ?_, ?_, ?_, ?_, ?_, (by exact hG)⟩ <;> try simp (disch := first | omega | decide) only [go_sem, f0, f1, cellsOf_u8]
    all_goals first | rfl | (simp; done)
  · clear f0 f1 hG
    rintro k σ hk ⟨s, m, rfl, f0, f1, f7, f8, mo0, hG⟩
    refine AW.seq ?_
    refine AW.region (cfg := cfg) ?_
    iterate 1 (apply aops_step (by decide) rfl; · (intro K hK; simp (disch := first | omega | decide) only [go_sem, f0, f1, f7, f8, cellsOf_u8]; exact hK _))
    refine aops_nil ?_
    refine AW.seq ?_
    apply AW.cond
    · simp (disch := first | omega | decide) only [go_sem, f0, f1, f7, f8, cellsOf_u8]; rfl
    case hf => intro hb; (simp at hb; omega)
    case ht =>
    intro hb
    have hbt9 := hb
    refine AW.skip ?_
    refine AW.seq ?_
    refine AW.block ?_
    refine AW.seq ?_
    refine AW.region (cfg := cfg) ?_
    iterate 2 (apply aops_step (by decide) rfl; · (intro K hK; simp (disch := first | omega | decide) only [go_sem, f0, f1, f7, f8, cellsOf_u8]; exact hK _))
    refine aops_nil ?_
    refine AW.seq ?_
    refine AW.region (cfg := cfg) ?_
    iterate 3 (apply aops_step (by decide) rfl; · (intro K hK; simp (disch := first | omega | decide) only [go_sem, f0, f1, f7, f8, cellsOf_u8]; exact hK _))
    apply aops_step (by decide) rfl
    · intro K hK
      simp (disch := first | omega | decide) only [go_sem, f0, f1, f7, f8, act_indexAddr_s u22 ti5, List.map, cellsOf_u8]
      skip
      exact hK _
    apply aops_step (by decide) rfl
    · intro K hK
      simp (disch := first | omega | decide) only [go_sem, f0, f1, f7, f8, act_load_t ti5, List.map, cellsOf_u8]
      skip
      exact hK _
    apply aops_step (by decide) rfl
    · intro K hK
      simp (disch := first | omega | decide) only [go_sem, f0, f1, f7, f8, act_callv, List.map, cellsOf_u8]
      apply mwp_call_sc hpu rfl hsc
      · intro Q hQ
        simp (disch := first | omega | decide) only [go_sem, f0, f1, f7, f8, peekL, reifyL_nil, reifyL_cons, reify_v, cellsOf_u8]
        exact hQ
      · exact hp l[k] (List.getElem_mem hk)
      · simp [noPtrL, noPtr, u8, hcn]
      · rfl
      · exact hK _
    refine aops_nil ?_
    apply AW.cond
    · simp (disch := first | omega | decide) only [go_sem, f0, f1, f7, f8, cellsOf_u8]; rfl
    case ht =>
      intro hb
      try simp only [Bool.or_eq_true, Bool.and_eq_true, Bool.or_eq_false_iff, Bool.and_eq_false_iff, decide_eq_true_eq, decide_eq_false_iff_not] at hb
      have hbt16 := hb
      refine AW.seq ?_
      refine AW.region (cfg := cfg) ?_
      iterate 2 (apply aops_step (by decide) rfl; · (intro K hK; simp (disch := first | omega | decide) only [go_sem, f0, f1, f7, f8, cellsOf_u8]; exact hK _))
      refine aops_nil ?_
      refine AW.ret ?_
      refine ⟨.inr rfl, ?_⟩
      refine leaves_tmp1 4 rfl ?_ (by exact hG)
      simp (disch := first | omega | decide) only [go_sem, f0, f1, f7, f8, cellsOf_u8]
      all_goals (rw [findI_at hk mo0 hb]; done)
    case hf =>
      intro hb
      try simp only [Bool.or_eq_true, Bool.and_eq_true, Bool.or_eq_false_iff, Bool.and_eq_false_iff, decide_eq_true_eq, decide_eq_false_iff_not] at hb
      have hbt16 := hb
      refine AW.skip ?_
      refine AW.region (cfg := cfg) ?_
      iterate 2 (apply aops_step (by decide) rfl; · (intro K hK; simp (disch := first | omega | decide) only [go_sem, f0, f1, f7, f8, cellsOf_u8]; exact hK _))
      refine aops_nil ?_
      refine ⟨_, _, rfl, ?_, ?_, ?_, ?_, ?_, (by exact hG)⟩ <;> try simp (disch := first | omega | decide) only [go_sem, f0, f1, f7, f8, cellsOf_u8]
      all_goals first | rfl | skip
      all_goals (intro x hx; rw [List.take_succ_eq_append_getElem hk] at hx; rcases List.mem_append.1 hx with h | h; exact mo0 x h; rw [List.mem_singleton.1 h]; exact hb)
  · clear f0 f1 hG
    rintro σ ⟨s, m, rfl, f0, f1, f7, f8, mo0, hG⟩
    refine AW.seq ?_
    refine AW.region (cfg := cfg) ?_
    iterate 1 (apply aops_step (by decide) rfl; · (intro K hK; simp (disch := first | omega | decide) only [go_sem, f0, f1, f7, f8, cellsOf_u8]; exact hK _))
    refine aops_nil ?_
    refine AW.seq ?_
    apply AW.cond
    · simp (disch := first | omega | decide) only [go_sem, f0, f1, f7, f8, cellsOf_u8]; rfl
    case ht => intro hb; (simp at hb; done)
    case hf =>
    intro hb
    have hbt9 := hb
    refine AW.exit ?_
    refine AW.seq ?_
    refine AW.region (cfg := cfg) ?_
    iterate 1 (apply aops_step (by decide) rfl; · (intro K hK; simp (disch := first | omega | decide) only [go_sem, f0, f1, f7, f8, cellsOf_u8]; exact hK _))
    refine aops_nil ?_
    refine AW.ret ?_
    refine ⟨.inr rfl, ?_⟩
    refine leaves_tmp1 4 rfl ?_ (by exact hG)
    simp (disch := first | omega | decide) only [go_sem, f0, f1, f7, f8, cellsOf_u8]
    all_goals (rw [findI_none (by simpa using mo0)]; done)

set_option maxHeartbeats 4000000 in
set_option maxRecDepth 100000 in
theorem good_ContainsFuncByte (nil : Bool) (l : List (BitVec 8)) (f : FuncId) (caps : List AV) (p : (BitVec 8) → Bool) (hl : l.length ≤ 9223372036854775807) (hcn : noPtrL caps = true) (hpu : cfg.pure f = true) (hsc : cfg.scalar f = true) (hp : ∀ x ∈ l, Good Try.prog f (([u8 x] ++ caps).map fun a => (a, false)) [] [(.b (p x), false)] []) : Good Try.prog 91 [(.sl 1 nil (l.map u8), false), (.clo f caps, false)] [] [(.b (l.any p), false)] [] := by
  refine good_of_body2 9 Try.func91 rfl rfl rfl (by simp) ?_
  intro s m ha hr hv hG
  have f0 : s 0 = .v (.sl 1 nil (l.map u8)) := ha 0 _ rfl
  have f1 : s 1 = .v (.clo f caps) := ha 1 _ rfl
  clear ha
  refine AW.seq ?_
  refine AW.region (cfg := cfg) ?_
  iterate 1 (apply aops_step (by decide) rfl; · (intro K hK; simp (disch := first | omega | decide) only [go_sem, f0, f1, cellsOf_u8]; exact hK _))
  refine aops_nil ?_
  refine AW.seq ?_
  refine AW.region (cfg := cfg) ?_
  iterate 2 (apply aops_step (by decide) rfl; · (intro K hK; simp (disch := first | omega | decide) only [go_sem, f0, f1, cellsOf_u8]; exact hK _))
  apply aops_step (by decide) rfl
  · intro K hK
    simp (disch := first | omega | decide) only [go_sem, f0, f1, act_call, List.map, cellsOf_u8]
    apply mwp_call_s rfl rfl rfl
    · intro Q hQ
      (simp (disch := first | omega | decide) only [go_sem, f0, f1, peekL, reifyL_nil, reifyL_cons, reify_v, cellsOf_u8]; (exact hQ))
    · exact good_IndexFuncByte nil l f caps p hl hcn hpu hsc hp
    · simp [-List.map_take, -List.map_drop, -List.map_append, -List.map_replicate, -List.reduceReplicate, noPtrL, noPtr, noPtrL_bsl, noPtrL_map, hcn, sub]
    · rfl
    · exact hK _
  iterate 2 (apply aops_step (by decide) rfl; · (intro K hK; simp (disch := first | omega | decide) only [go_sem, f0, f1, cellsOf_u8]; exact hK _))
  refine aops_nil ?_
  refine AW.ret ?_
  refine ⟨.inr rfl, ?_⟩
  refine leaves_tmp1 4 rfl ?_ (by exact hG)
  simp (disch := first | omega | decide) only [go_sem, f0, f1, cellsOf_u8]
  all_goals (rw [findI_any]; done)

set_option maxHeartbeats 4000000 in
set_option maxRecDepth 100000 in
theorem good_nzG (x : BitVec 8) : Good Try.prog 93 [(u8 x, false)] [] [(.b (nz x), false)] [] := by
  refine good_of_body2 5 Try.func93 rfl rfl rfl (by simp) ?_
  intro s m ha hr hv hG
  have f0 : s 0 = .v (u8 x) := ha 0 _ rfl
  clear ha
  refine AW.seq ?_
  refine AW.region (cfg := cfg) ?_
  iterate 1 (apply aops_step (by decide) rfl; · (intro K hK; simp (disch := first | omega | decide) only [go_sem, f0]; exact hK _))
  refine aops_nil ?_
  refine AW.seq ?_
  refine AW.region (cfg := cfg) ?_
  iterate 3 (apply aops_step (by decide) rfl; · (intro K hK; simp (disch := first | omega | decide) only [go_sem, f0]; exact hK _))
  refine aops_nil ?_
  refine AW.ret ?_
  refine ⟨.inr rfl, ?_⟩
  refine leaves_tmp1 2 rfl ?_ (by exact hG)
  simp (disch := first | omega | decide) only [go_sem, f0]
  all_goals rfl

set_option maxHeartbeats 4000000 in
set_option maxRecDepth 100000 in
theorem good_withinP (n lo hi : Int) : Good Try.prog 99 [(i64 n, false), (i64 lo, false), (i64 hi, false)] [] [(.b (wi n lo hi), false)] [] := by
  refine good_of_body2 15 Try.func99 rfl rfl rfl (by simp) ?_
  intro s m ha hr hv hG
  have f0 : s 0 = .v (i64 n) := ha 0 _ rfl
  have f1 : s 1 = .v (i64 lo) := ha 1 _ rfl
  have f2 : s 2 = .v (i64 hi) := ha 2 _ rfl
  clear ha
  refine AW.seq ?_
  refine AW.region (cfg := cfg) ?_
  iterate 1 (apply aops_step (by decide) rfl; · (intro K hK; simp (disch := first | omega | decide) only [go_sem, f0, f1, f2]; exact hK _))
  refine aops_nil ?_
  refine AW.seq ?_
  refine AW.region (cfg := cfg) ?_
  iterate 4 (apply aops_step (by decide) rfl; · (intro K hK; simp (disch := first | omega | decide) only [go_sem, f0, f1, f2]; exact hK _))
  apply aops_merge' (by decide) (by exact want_of (d := 10) rfl (by simp (disch := first | omega | decide) only [go_sem, f0, f1, f2, opn_cond]; rfl))
  · intro hc K hK
    have hc2 := hc
    simp only [beq_iff_eq, decide_eq_true_eq, decide_eq_false_iff_not, Bool.or_eq_true, Bool.and_eq_true, Bool.or_eq_false_iff, Bool.and_eq_false_iff] at hc2
    simp (disch := first | omega | decide) only [go_sem, f0, f1, f2, opn_cond, hc, if_true]
    exact hK _
  apply aops_merge' (by decide) (by exact want_of (d := 10) rfl (by simp (disch := first | omega | decide) only [go_sem, f0, f1, f2, opn_cond]; rfl))
  · intro hc K hK
    have hc2 := hc
    simp only [beq_iff_eq, decide_eq_true_eq, decide_eq_false_iff_not, Bool.or_eq_true, Bool.and_eq_true, Bool.or_eq_false_iff, Bool.and_eq_false_iff] at hc2
    simp (disch := first | omega | decide) only [go_sem, f0, f1, f2, opn_cond, hc, if_true]
    exact hK _
  apply aops_merge' (by decide) (by exact want_of (d := 10) rfl (by simp (disch := first | omega | decide) only [go_sem, f0, f1, f2, opn_cond]; rfl))
  · intro hc K hK
    have hc2 := hc
    simp only [beq_iff_eq, decide_eq_true_eq, decide_eq_false_iff_not, Bool.or_eq_true, Bool.and_eq_true, Bool.or_eq_false_iff, Bool.and_eq_false_iff] at hc2
    simp (disch := first | omega | decide) only [go_sem, f0, f1, f2, opn_cond, hc, if_true]
    exact hK _
  iterate 2 (apply aops_step (by decide) rfl; · (intro K hK; simp (disch := first | omega | decide) only [go_sem, f0, f1, f2]; exact hK _))
  refine aops_nil ?_
  refine AW.ret ?_
  refine ⟨.inr rfl, ?_⟩
  refine leaves_tmp1 6 rfl ?_ (by exact hG)
  simp (disch := first | omega | decide) only [go_sem, f0, f1, f2]
  all_goals rfl

set_option maxHeartbeats 4000000 in
set_option maxRecDepth 100000 in
theorem good_inR (n mo : Int) : Good Try.prog 87 [(i64 n, false), (i64 mo, false)] [] [(.b (inn n mo), false)] [] := by
  refine good_of_body2 12 Try.func87 rfl rfl rfl (by simp) ?_
  intro s m ha hr hv hG
  have f0 : s 0 = .v (i64 n) := ha 0 _ rfl
  have f1 : s 1 = .v (i64 mo) := ha 1 _ rfl
  clear ha
  refine AW.seq ?_
  refine AW.region (cfg := cfg) ?_
  iterate 1 (apply aops_step (by decide) rfl; · (intro K hK; simp (disch := first | omega | decide) only [go_sem, f0, f1]; exact hK _))
  refine aops_nil ?_
  refine AW.seq ?_
  refine AW.region (cfg := cfg) ?_
  iterate 3 (apply aops_step (by decide) rfl; · (intro K hK; simp (disch := first | omega | decide) only [go_sem, f0, f1]; exact hK _))
  apply aops_merge' (by decide) (by exact want_of (d := 7) rfl (by simp (disch := first | omega | decide) only [go_sem, f0, f1, opn_cond]; rfl))
  · intro hc K hK
    have hc2 := hc
    simp only [beq_iff_eq, decide_eq_true_eq, decide_eq_false_iff_not, Bool.or_eq_true, Bool.and_eq_true, Bool.or_eq_false_iff, Bool.and_eq_false_iff] at hc2
    simp (disch := first | omega | decide) only [go_sem, f0, f1, opn_cond, hc, if_true]
    exact hK _
  apply aops_merge' (by decide) (by exact want_of (d := 7) rfl (by simp (disch := first | omega | decide) only [go_sem, f0, f1, opn_cond]; rfl))
  · intro hc K hK
    have hc2 := hc
    simp only [beq_iff_eq, decide_eq_true_eq, decide_eq_false_iff_not, Bool.or_eq_true, Bool.and_eq_true, Bool.or_eq_false_iff, Bool.and_eq_false_iff] at hc2
    simp (disch := first | omega | decide) only [go_sem, f0, f1, opn_cond, hc, if_true]
    exact hK _
  apply aops_merge' (by decide) (by exact want_of (d := 7) rfl (by simp (disch := first | omega | decide) only [go_sem, f0, f1, opn_cond]; rfl))
  · intro hc K hK
    have hc2 := hc
    simp only [beq_iff_eq, decide_eq_true_eq, decide_eq_false_iff_not, Bool.or_eq_true, Bool.and_eq_true, Bool.or_eq_false_iff, Bool.and_eq_false_iff] at hc2
    simp (disch := first | omega | decide) only [go_sem, f0, f1, opn_cond, hc, if_true]
    exact hK _
  iterate 2 (apply aops_step (by decide) rfl; · (intro K hK; simp (disch := first | omega | decide) only [go_sem, f0, f1]; exact hK _))
  refine aops_nil ?_
  refine AW.ret ?_
  refine ⟨.inr rfl, ?_⟩
  refine leaves_tmp1 4 rfl ?_ (by exact hG)
  simp (disch := first | omega | decide) only [go_sem, f0, f1]
  all_goals rfl

theorem ok_ref {p : Page} : ((((((((((decide (p.kind ≥ 1) && decide (p.kind ≤ 9)) && inn p.gen 2147483648) && inn p.mark 2147483648) && inn p.idx 2147483648) && decide (p.parts ≥ 1)) && decide (p.parts ≤ 16)) && decide (p.part ≥ 0)) && decide (p.part < p.parts)) && decide ((p.b.length : Int) ≤ 488))) = pageOK p := by
  rw [Bool.eq_iff_iff]
  simp only [pageOK, wi, inn, Bool.and_eq_true, decide_eq_true_eq]
  omega
set_option maxHeartbeats 4000000 in
set_option maxRecDepth 100000 in
theorem good_mayP (p : Page) (hp : p.b.length ≤ 9223372036854775807) : Good Try.prog 83 [(pageA p, false)] [] [(.b (pageOK p), false)] [] := by
  refine good_of_body2 40 Try.func83 rfl rfl rfl (by simp) ?_
  intro s m ha hr hv hG
  have f0 : s 0 = .v (.agg [i64 p.kind, i64 p.gen, i64 p.mark, i64 p.idx, i64 p.part, i64 p.parts, .sl 1 p.nil (bsl p.b)]) := ha 0 _ rfl
  clear ha
  refine AW.seq ?_
  refine AW.region (cfg := cfg) ?_
  apply aops_step (by decide) rfl
  · intro K hK
    simp (disch := first | omega | decide) only [go_sem, f0, act_box_t ti58, List.map, cellsOf_page]
    rw [settleL_vish _ _ (by rfl)]
    simp (disch := first | omega | decide) only [go_sem, f0, cellsL, List.map, List.length_cons, List.length_nil, Nat.reduceAdd, if_true, cellsOf_page]
    exact hK _
  iterate 1 (apply aops_step (by decide) rfl; · (intro K hK; simp (disch := first | omega | decide) only [go_sem, f0, cellsOf_page]; exact hK _))
  refine aops_nil ?_
  refine AW.seq ?_
  refine AW.region (cfg := cfg) ?_
  apply aops_step (by decide) rfl
  · intro K hK
    simp (disch := first | omega | decide) only [go_sem, f0, act_fieldAddr_t fo58_0, List.map, cellsOf_page]
    rw [mwp_fieldAddr_b (by simp (disch := first | omega | decide) only [go_sem, f0, cellsOf_page]; rfl)]
    exact hK _
  apply aops_step (by decide) rfl
  · intro K hK
    simp (disch := first | omega | decide) only [go_sem, f0, act_load_t ti3, List.map, cellsOf_page]
    rw [mwp_load_b1 (by simp (disch := first | omega | decide) only [go_sem, f0, cellsOf_page]; rfl) (by rfl)]
    exact hK _
  apply aops_step (by decide) rfl
  · intro K hK
    simp (disch := first | omega | decide) only [go_sem, f0, act_call, List.map, cellsOf_page]
    apply mwp_call_s rfl rfl rfl
    · intro Q hQ
      (simp (disch := first | omega | decide) only [go_sem, f0, peekL, reifyL_nil, reifyL_cons, reify_v, cellsOf_page]; (exact hQ))
    · exact good_withinP _ _ _
    · simp [-List.map_take, -List.map_drop, -List.map_append, -List.map_replicate, -List.reduceReplicate, noPtrL, noPtr, noPtrL_bsl, noPtrL_map, sub]
    · rfl
    · exact hK _
  iterate 1 (apply aops_step (by decide) rfl; · (intro K hK; simp (disch := first | omega | decide) only [go_sem, f0, cellsOf_page]; exact hK _))
  apply aops_merge' (by decide) (by exact want_of (d := 6) rfl (by simp (disch := first | omega | decide) only [go_sem, f0, opn_cond, cellsOf_page]; rfl))
  · intro hc K hK
    have hc2 := hc
    simp only [beq_iff_eq, decide_eq_true_eq, decide_eq_false_iff_not, Bool.or_eq_true, Bool.and_eq_true, Bool.or_eq_false_iff, Bool.and_eq_false_iff, wi, inn] at hc2
    simp (disch := first | omega | decide) only [go_sem, f0, opn_cond, hc, if_true, act_fieldAddr_t fo58_1, cellsOf_page]
    rw [mwp_fieldAddr_b (by simp (disch := first | omega | decide) only [go_sem, f0, opn_cond, hc, if_true, cellsOf_page]; rfl)]
    exact hK _
  apply aops_merge' (by decide) (by exact want_of (d := 6) rfl (by simp (disch := first | omega | decide) only [go_sem, f0, opn_cond, cellsOf_page]; rfl))
  · intro hc K hK
    have hc2 := hc
    simp only [beq_iff_eq, decide_eq_true_eq, decide_eq_false_iff_not, Bool.or_eq_true, Bool.and_eq_true, Bool.or_eq_false_iff, Bool.and_eq_false_iff, wi, inn] at hc2
    simp (disch := first | omega | decide) only [go_sem, f0, opn_cond, hc, if_true, act_load_t ti3, cellsOf_page]
    rw [mwp_load_b1 (by simp (disch := first | omega | decide) only [go_sem, f0, opn_cond, hc, if_true, cellsOf_page]; rfl) (by rfl)]
    exact hK _
  apply aops_merge' (by decide) (by exact want_of (d := 6) rfl (by simp (disch := first | omega | decide) only [go_sem, f0, opn_cond, cellsOf_page]; rfl))
  · intro hc K hK
    have hc2 := hc
    simp only [beq_iff_eq, decide_eq_true_eq, decide_eq_false_iff_not, Bool.or_eq_true, Bool.and_eq_true, Bool.or_eq_false_iff, Bool.and_eq_false_iff, wi, inn] at hc2
    simp (disch := first | omega | decide) only [go_sem, f0, opn_cond, hc, if_true, act_call, List.map, cellsOf_page]
    apply mwp_call_s rfl rfl rfl
    · intro Q hQ
      (simp (disch := first | omega | decide) only [go_sem, f0, opn_cond, hc, if_true, peekL, reifyL_nil, reifyL_cons, reify_v, cellsOf_page]; (exact hQ))
    · exact good_withinP _ _ _
    · simp [-List.map_take, -List.map_drop, -List.map_append, -List.map_replicate, -List.reduceReplicate, noPtrL, noPtr, noPtrL_bsl, noPtrL_map, sub]
    · rfl
    · exact hK _
  iterate 2 (apply aops_step (by decide) rfl; · (intro K hK; simp (disch := first | omega | decide) only [go_sem, f0, cellsOf_page]; exact hK _))
  apply aops_merge' (by decide) (by exact want_of (d := 11) rfl (by simp (disch := first | omega | decide) only [go_sem, f0, opn_cond, cellsOf_page]; rfl))
  · intro hc K hK
    have hc2 := hc
    simp only [beq_iff_eq, decide_eq_true_eq, decide_eq_false_iff_not, Bool.or_eq_true, Bool.and_eq_true, Bool.or_eq_false_iff, Bool.and_eq_false_iff, wi, inn] at hc2
    simp (disch := first | omega | decide) only [go_sem, f0, opn_cond, hc, if_true, act_fieldAddr_t fo58_2, cellsOf_page]
    rw [mwp_fieldAddr_b (by simp (disch := first | omega | decide) only [go_sem, f0, opn_cond, hc, if_true, cellsOf_page]; rfl)]
    exact hK _
  apply aops_merge' (by decide) (by exact want_of (d := 11) rfl (by simp (disch := first | omega | decide) only [go_sem, f0, opn_cond, cellsOf_page]; rfl))
  · intro hc K hK
    have hc2 := hc
    simp only [beq_iff_eq, decide_eq_true_eq, decide_eq_false_iff_not, Bool.or_eq_true, Bool.and_eq_true, Bool.or_eq_false_iff, Bool.and_eq_false_iff, wi, inn] at hc2
    simp (disch := first | omega | decide) only [go_sem, f0, opn_cond, hc, if_true, act_load_t ti3, cellsOf_page]
    rw [mwp_load_b1 (by simp (disch := first | omega | decide) only [go_sem, f0, opn_cond, hc, if_true, cellsOf_page]; rfl) (by rfl)]
    exact hK _
  apply aops_merge' (by decide) (by exact want_of (d := 11) rfl (by simp (disch := first | omega | decide) only [go_sem, f0, opn_cond, cellsOf_page]; rfl))
  · intro hc K hK
    have hc2 := hc
    simp only [beq_iff_eq, decide_eq_true_eq, decide_eq_false_iff_not, Bool.or_eq_true, Bool.and_eq_true, Bool.or_eq_false_iff, Bool.and_eq_false_iff, wi, inn] at hc2
    simp (disch := first | omega | decide) only [go_sem, f0, opn_cond, hc, if_true, act_call, List.map, cellsOf_page]
    apply mwp_call_s rfl rfl rfl
    · intro Q hQ
      (simp (disch := first | omega | decide) only [go_sem, f0, opn_cond, hc, if_true, peekL, reifyL_nil, reifyL_cons, reify_v, cellsOf_page]; (exact hQ))
    · exact good_withinP _ _ _
    · simp [-List.map_take, -List.map_drop, -List.map_append, -List.map_replicate, -List.reduceReplicate, noPtrL, noPtr, noPtrL_bsl, noPtrL_map, sub]
    · rfl
    · exact hK _
  iterate 2 (apply aops_step (by decide) rfl; · (intro K hK; simp (disch := first | omega | decide) only [go_sem, f0, cellsOf_page]; exact hK _))
  apply aops_merge' (by decide) (by exact want_of (d := 16) rfl (by simp (disch := first | omega | decide) only [go_sem, f0, opn_cond, cellsOf_page]; rfl))
  · intro hc K hK
    have hc2 := hc
    simp only [beq_iff_eq, decide_eq_true_eq, decide_eq_false_iff_not, Bool.or_eq_true, Bool.and_eq_true, Bool.or_eq_false_iff, Bool.and_eq_false_iff, wi, inn] at hc2
    simp (disch := first | omega | decide) only [go_sem, f0, opn_cond, hc, if_true, act_fieldAddr_t fo58_3, cellsOf_page]
    rw [mwp_fieldAddr_b (by simp (disch := first | omega | decide) only [go_sem, f0, opn_cond, hc, if_true, cellsOf_page]; rfl)]
    exact hK _
  apply aops_merge' (by decide) (by exact want_of (d := 16) rfl (by simp (disch := first | omega | decide) only [go_sem, f0, opn_cond, cellsOf_page]; rfl))
  · intro hc K hK
    have hc2 := hc
    simp only [beq_iff_eq, decide_eq_true_eq, decide_eq_false_iff_not, Bool.or_eq_true, Bool.and_eq_true, Bool.or_eq_false_iff, Bool.and_eq_false_iff, wi, inn] at hc2
    simp (disch := first | omega | decide) only [go_sem, f0, opn_cond, hc, if_true, act_load_t ti3, cellsOf_page]
    rw [mwp_load_b1 (by simp (disch := first | omega | decide) only [go_sem, f0, opn_cond, hc, if_true, cellsOf_page]; rfl) (by rfl)]
    exact hK _
  apply aops_merge' (by decide) (by exact want_of (d := 16) rfl (by simp (disch := first | omega | decide) only [go_sem, f0, opn_cond, cellsOf_page]; rfl))
  · intro hc K hK
    have hc2 := hc
    simp only [beq_iff_eq, decide_eq_true_eq, decide_eq_false_iff_not, Bool.or_eq_true, Bool.and_eq_true, Bool.or_eq_false_iff, Bool.and_eq_false_iff, wi, inn] at hc2
    simp (disch := first | omega | decide) only [go_sem, f0, opn_cond, hc, if_true, act_call, List.map, cellsOf_page]
    apply mwp_call_s rfl rfl rfl
    · intro Q hQ
      (simp (disch := first | omega | decide) only [go_sem, f0, opn_cond, hc, if_true, peekL, reifyL_nil, reifyL_cons, reify_v, cellsOf_page]; (exact hQ))
    · exact good_withinP _ _ _
    · simp [-List.map_take, -List.map_drop, -List.map_append, -List.map_replicate, -List.reduceReplicate, noPtrL, noPtr, noPtrL_bsl, noPtrL_map, sub]
    · rfl
    · exact hK _
  iterate 2 (apply aops_step (by decide) rfl; · (intro K hK; simp (disch := first | omega | decide) only [go_sem, f0, cellsOf_page]; exact hK _))
  apply aops_merge' (by decide) (by exact want_of (d := 21) rfl (by simp (disch := first | omega | decide) only [go_sem, f0, opn_cond, cellsOf_page]; rfl))
  · intro hc K hK
    have hc2 := hc
    simp only [beq_iff_eq, decide_eq_true_eq, decide_eq_false_iff_not, Bool.or_eq_true, Bool.and_eq_true, Bool.or_eq_false_iff, Bool.and_eq_false_iff, wi, inn] at hc2
    simp (disch := first | omega | decide) only [go_sem, f0, opn_cond, hc, if_true, act_fieldAddr_t fo58_5, cellsOf_page]
    rw [mwp_fieldAddr_b (by simp (disch := first | omega | decide) only [go_sem, f0, opn_cond, hc, if_true, cellsOf_page]; rfl)]
    exact hK _
  apply aops_merge' (by decide) (by exact want_of (d := 21) rfl (by simp (disch := first | omega | decide) only [go_sem, f0, opn_cond, cellsOf_page]; rfl))
  · intro hc K hK
    have hc2 := hc
    simp only [beq_iff_eq, decide_eq_true_eq, decide_eq_false_iff_not, Bool.or_eq_true, Bool.and_eq_true, Bool.or_eq_false_iff, Bool.and_eq_false_iff, wi, inn] at hc2
    simp (disch := first | omega | decide) only [go_sem, f0, opn_cond, hc, if_true, act_load_t ti3, cellsOf_page]
    rw [mwp_load_b1 (by simp (disch := first | omega | decide) only [go_sem, f0, opn_cond, hc, if_true, cellsOf_page]; rfl) (by rfl)]
    exact hK _
  apply aops_merge' (by decide) (by exact want_of (d := 21) rfl (by simp (disch := first | omega | decide) only [go_sem, f0, opn_cond, cellsOf_page]; rfl))
  · intro hc K hK
    have hc2 := hc
    simp only [beq_iff_eq, decide_eq_true_eq, decide_eq_false_iff_not, Bool.or_eq_true, Bool.and_eq_true, Bool.or_eq_false_iff, Bool.and_eq_false_iff, wi, inn] at hc2
    simp (disch := first | omega | decide) only [go_sem, f0, opn_cond, hc, if_true, act_call, List.map, cellsOf_page]
    apply mwp_call_s rfl rfl rfl
    · intro Q hQ
      (simp (disch := first | omega | decide) only [go_sem, f0, opn_cond, hc, if_true, peekL, reifyL_nil, reifyL_cons, reify_v, cellsOf_page]; (exact hQ))
    · exact good_withinP _ _ _
    · simp [-List.map_take, -List.map_drop, -List.map_append, -List.map_replicate, -List.reduceReplicate, noPtrL, noPtr, noPtrL_bsl, noPtrL_map, sub]
    · rfl
    · exact hK _
  iterate 2 (apply aops_step (by decide) rfl; · (intro K hK; simp (disch := first | omega | decide) only [go_sem, f0, cellsOf_page]; exact hK _))
  apply aops_merge' (by decide) (by exact want_of (d := 26) rfl (by simp (disch := first | omega | decide) only [go_sem, f0, opn_cond, cellsOf_page]; rfl))
  · intro hc K hK
    have hc2 := hc
    simp only [beq_iff_eq, decide_eq_true_eq, decide_eq_false_iff_not, Bool.or_eq_true, Bool.and_eq_true, Bool.or_eq_false_iff, Bool.and_eq_false_iff, wi, inn] at hc2
    simp (disch := first | omega | decide) only [go_sem, f0, opn_cond, hc, if_true, act_fieldAddr_t fo58_4, cellsOf_page]
    rw [mwp_fieldAddr_b (by simp (disch := first | omega | decide) only [go_sem, f0, opn_cond, hc, if_true, cellsOf_page]; rfl)]
    exact hK _
  apply aops_merge' (by decide) (by exact want_of (d := 26) rfl (by simp (disch := first | omega | decide) only [go_sem, f0, opn_cond, cellsOf_page]; rfl))
  · intro hc K hK
    have hc2 := hc
    simp only [beq_iff_eq, decide_eq_true_eq, decide_eq_false_iff_not, Bool.or_eq_true, Bool.and_eq_true, Bool.or_eq_false_iff, Bool.and_eq_false_iff, wi, inn] at hc2
    simp (disch := first | omega | decide) only [go_sem, f0, opn_cond, hc, if_true, act_load_t ti3, cellsOf_page]
    rw [mwp_load_b1 (by simp (disch := first | omega | decide) only [go_sem, f0, opn_cond, hc, if_true, cellsOf_page]; rfl) (by rfl)]
    exact hK _
  apply aops_merge' (by decide) (by exact want_of (d := 26) rfl (by simp (disch := first | omega | decide) only [go_sem, f0, opn_cond, cellsOf_page]; rfl))
  · intro hc K hK
    have hc2 := hc
    simp only [beq_iff_eq, decide_eq_true_eq, decide_eq_false_iff_not, Bool.or_eq_true, Bool.and_eq_true, Bool.or_eq_false_iff, Bool.and_eq_false_iff, wi, inn] at hc2
    simp (disch := first | omega | decide) only [go_sem, f0, opn_cond, hc, if_true, act_fieldAddr_t fo58_5, cellsOf_page]
    rw [mwp_fieldAddr_b (by simp (disch := first | omega | decide) only [go_sem, f0, opn_cond, hc, if_true, cellsOf_page]; rfl)]
    exact hK _
  apply aops_merge' (by decide) (by exact want_of (d := 26) rfl (by simp (disch := first | omega | decide) only [go_sem, f0, opn_cond, cellsOf_page]; rfl))
  · intro hc K hK
    have hc2 := hc
    simp only [beq_iff_eq, decide_eq_true_eq, decide_eq_false_iff_not, Bool.or_eq_true, Bool.and_eq_true, Bool.or_eq_false_iff, Bool.and_eq_false_iff, wi, inn] at hc2
    simp (disch := first | omega | decide) only [go_sem, f0, opn_cond, hc, if_true, act_load_t ti3, cellsOf_page]
    rw [mwp_load_b1 (by simp (disch := first | omega | decide) only [go_sem, f0, opn_cond, hc, if_true, cellsOf_page]; rfl) (by rfl)]
    exact hK _
  apply aops_merge' (by decide) (by exact want_of (d := 26) rfl (by simp (disch := first | omega | decide) only [go_sem, f0, opn_cond, cellsOf_page]; rfl))
  · intro hc K hK
    have hc2 := hc
    simp only [beq_iff_eq, decide_eq_true_eq, decide_eq_false_iff_not, Bool.or_eq_true, Bool.and_eq_true, Bool.or_eq_false_iff, Bool.and_eq_false_iff, wi, inn] at hc2
    simp (disch := first | omega | decide) only [go_sem, f0, opn_cond, hc, if_true, cellsOf_page]
    exact hK _
  apply aops_merge' (by decide) (by exact want_of (d := 26) rfl (by simp (disch := first | omega | decide) only [go_sem, f0, opn_cond, cellsOf_page]; rfl))
  · intro hc K hK
    have hc2 := hc
    simp only [beq_iff_eq, decide_eq_true_eq, decide_eq_false_iff_not, Bool.or_eq_true, Bool.and_eq_true, Bool.or_eq_false_iff, Bool.and_eq_false_iff, wi, inn] at hc2
    simp (disch := first | omega | decide) only [go_sem, f0, opn_cond, hc, if_true, act_call, List.map, cellsOf_page]
    apply mwp_call_s rfl rfl rfl
    · intro Q hQ
      (simp (disch := first | omega | decide) only [go_sem, f0, opn_cond, hc, if_true, peekL, reifyL_nil, reifyL_cons, reify_v, cellsOf_page]; (exact hQ))
    · exact good_withinP _ _ _
    · simp [-List.map_take, -List.map_drop, -List.map_append, -List.map_replicate, -List.reduceReplicate, noPtrL, noPtr, noPtrL_bsl, noPtrL_map, sub]
    · rfl
    · exact hK _
  iterate 2 (apply aops_step (by decide) rfl; · (intro K hK; simp (disch := first | omega | decide) only [go_sem, f0, cellsOf_page]; exact hK _))
  apply aops_merge' (by decide) (by exact want_of (d := 34) rfl (by simp (disch := first | omega | decide) only [go_sem, f0, opn_cond, cellsOf_page]; rfl))
  · intro hc K hK
    have hc2 := hc
    simp only [beq_iff_eq, decide_eq_true_eq, decide_eq_false_iff_not, Bool.or_eq_true, Bool.and_eq_true, Bool.or_eq_false_iff, Bool.and_eq_false_iff, wi, inn] at hc2
    simp (disch := first | omega | decide) only [go_sem, f0, opn_cond, hc, if_true, act_fieldAddr_t fo58_6, cellsOf_page]
    rw [mwp_fieldAddr_b (by simp (disch := first | omega | decide) only [go_sem, f0, opn_cond, hc, if_true, cellsOf_page]; rfl)]
    exact hK _
  apply aops_merge' (by decide) (by exact want_of (d := 34) rfl (by simp (disch := first | omega | decide) only [go_sem, f0, opn_cond, cellsOf_page]; rfl))
  · intro hc K hK
    have hc2 := hc
    simp only [beq_iff_eq, decide_eq_true_eq, decide_eq_false_iff_not, Bool.or_eq_true, Bool.and_eq_true, Bool.or_eq_false_iff, Bool.and_eq_false_iff, wi, inn] at hc2
    simp (disch := first | omega | decide) only [go_sem, f0, opn_cond, hc, if_true, act_load_t ti22, cellsOf_page]
    rw [mwp_load_b1 (by simp (disch := first | omega | decide) only [go_sem, f0, opn_cond, hc, if_true, cellsOf_page]; rfl) (by rfl)]
    exact hK _
  apply aops_merge' (by decide) (by exact want_of (d := 34) rfl (by simp (disch := first | omega | decide) only [go_sem, f0, opn_cond, cellsOf_page]; rfl))
  · intro hc K hK
    have hc2 := hc
    simp only [beq_iff_eq, decide_eq_true_eq, decide_eq_false_iff_not, Bool.or_eq_true, Bool.and_eq_true, Bool.or_eq_false_iff, Bool.and_eq_false_iff, wi, inn] at hc2
    simp (disch := first | omega | decide) only [go_sem, f0, opn_cond, hc, if_true, List.map, List.length_map, aops_len u22, cellsOf_page]
    exact hK _
  apply aops_merge' (by decide) (by exact want_of (d := 34) rfl (by simp (disch := first | omega | decide) only [go_sem, f0, opn_cond, cellsOf_page]; rfl))
  · intro hc K hK
    have hc2 := hc
    simp only [beq_iff_eq, decide_eq_true_eq, decide_eq_false_iff_not, Bool.or_eq_true, Bool.and_eq_true, Bool.or_eq_false_iff, Bool.and_eq_false_iff, wi, inn] at hc2
    simp (disch := first | omega | decide) only [go_sem, f0, opn_cond, hc, if_true, cellsOf_page]
    exact hK _
  iterate 2 (apply aops_step (by decide) rfl; · (intro K hK; simp (disch := first | omega | decide) only [go_sem, f0, cellsOf_page]; exact hK _))
  refine aops_nil ?_
  refine AW.ret ?_
  refine ⟨.inr rfl, ?_⟩
  refine leaves_tmp1 2 rfl ?_ (by exact hG)
  simp (disch := first | omega | decide) only [go_sem, f0, cellsOf_page]
  all_goals (simp only [pageOK, Bool.and_assoc]; done)

set_option maxHeartbeats 4000000 in
set_option maxRecDepth 100000 in
theorem good_refMayP (p : Page) (hp : p.b.length ≤ 9223372036854775807) : Good Try.prog 56 [(pageA p, false)] [] [(.b (pageOK p), false)] [] := by
  refine good_of_body2 54 Try.func56 rfl rfl rfl (by simp) ?_
  intro s m ha hr hv hG
  have f0 : s 0 = .v (.agg [i64 p.kind, i64 p.gen, i64 p.mark, i64 p.idx, i64 p.part, i64 p.parts, .sl 1 p.nil (bsl p.b)]) := ha 0 _ rfl
  clear ha
  refine AW.seq ?_
  refine AW.region (cfg := cfg) ?_
  apply aops_step (by decide) rfl
  · intro K hK
    simp (disch := first | omega | decide) only [go_sem, f0, act_box_t ti58, List.map, cellsOf_page]
    rw [settleL_vish _ _ (by rfl)]
    simp (disch := first | omega | decide) only [go_sem, f0, cellsL, List.map, List.length_cons, List.length_nil, Nat.reduceAdd, if_true, cellsOf_page]
    exact hK _
  iterate 1 (apply aops_step (by decide) rfl; · (intro K hK; simp (disch := first | omega | decide) only [go_sem, f0, cellsOf_page]; exact hK _))
  refine aops_nil ?_
  refine AW.seq ?_
  refine AW.region (cfg := cfg) ?_
  apply aops_step (by decide) rfl
  · intro K hK
    simp (disch := first | omega | decide) only [go_sem, f0, act_fieldAddr_t fo58_0, List.map, cellsOf_page]
    rw [mwp_fieldAddr_b (by simp (disch := first | omega | decide) only [go_sem, f0, cellsOf_page]; rfl)]
    exact hK _
  apply aops_step (by decide) rfl
  · intro K hK
    simp (disch := first | omega | decide) only [go_sem, f0, act_load_t ti3, List.map, cellsOf_page]
    rw [mwp_load_b1 (by simp (disch := first | omega | decide) only [go_sem, f0, cellsOf_page]; rfl) (by rfl)]
    exact hK _
  iterate 2 (apply aops_step (by decide) rfl; · (intro K hK; simp (disch := first | omega | decide) only [go_sem, f0, cellsOf_page]; exact hK _))
  apply aops_merge' (by decide) (by exact want_of (d := 6) rfl (by simp (disch := first | omega | decide) only [go_sem, f0, opn_cond, cellsOf_page]; rfl))
  · intro hc K hK
    have hc2 := hc
    simp only [beq_iff_eq, decide_eq_true_eq, decide_eq_false_iff_not, Bool.or_eq_true, Bool.and_eq_true, Bool.or_eq_false_iff, Bool.and_eq_false_iff, wi, inn] at hc2
    simp (disch := first | omega | decide) only [go_sem, f0, opn_cond, hc, if_true, act_fieldAddr_t fo58_0, cellsOf_page]
    rw [mwp_fieldAddr_b (by simp (disch := first | omega | decide) only [go_sem, f0, opn_cond, hc, if_true, cellsOf_page]; rfl)]
    exact hK _
  apply aops_merge' (by decide) (by exact want_of (d := 6) rfl (by simp (disch := first | omega | decide) only [go_sem, f0, opn_cond, cellsOf_page]; rfl))
  · intro hc K hK
    have hc2 := hc
    simp only [beq_iff_eq, decide_eq_true_eq, decide_eq_false_iff_not, Bool.or_eq_true, Bool.and_eq_true, Bool.or_eq_false_iff, Bool.and_eq_false_iff, wi, inn] at hc2
    simp (disch := first | omega | decide) only [go_sem, f0, opn_cond, hc, if_true, act_load_t ti3, cellsOf_page]
    rw [mwp_load_b1 (by simp (disch := first | omega | decide) only [go_sem, f0, opn_cond, hc, if_true, cellsOf_page]; rfl) (by rfl)]
    exact hK _
  apply aops_merge' (by decide) (by exact want_of (d := 6) rfl (by simp (disch := first | omega | decide) only [go_sem, f0, opn_cond, cellsOf_page]; rfl))
  · intro hc K hK
    have hc2 := hc
    simp only [beq_iff_eq, decide_eq_true_eq, decide_eq_false_iff_not, Bool.or_eq_true, Bool.and_eq_true, Bool.or_eq_false_iff, Bool.and_eq_false_iff, wi, inn] at hc2
    simp (disch := first | omega | decide) only [go_sem, f0, opn_cond, hc, if_true, cellsOf_page]
    exact hK _
  iterate 2 (apply aops_step (by decide) rfl; · (intro K hK; simp (disch := first | omega | decide) only [go_sem, f0, cellsOf_page]; exact hK _))
  apply aops_merge' (by decide) (by exact want_of (d := 11) rfl (by simp (disch := first | omega | decide) only [go_sem, f0, opn_cond, cellsOf_page]; rfl))
  · intro hc K hK
    have hc2 := hc
    simp only [beq_iff_eq, decide_eq_true_eq, decide_eq_false_iff_not, Bool.or_eq_true, Bool.and_eq_true, Bool.or_eq_false_iff, Bool.and_eq_false_iff, wi, inn] at hc2
    simp (disch := first | omega | decide) only [go_sem, f0, opn_cond, hc, if_true, act_fieldAddr_t fo58_1, cellsOf_page]
    rw [mwp_fieldAddr_b (by simp (disch := first | omega | decide) only [go_sem, f0, opn_cond, hc, if_true, cellsOf_page]; rfl)]
    exact hK _
  apply aops_merge' (by decide) (by exact want_of (d := 11) rfl (by simp (disch := first | omega | decide) only [go_sem, f0, opn_cond, cellsOf_page]; rfl))
  · intro hc K hK
    have hc2 := hc
    simp only [beq_iff_eq, decide_eq_true_eq, decide_eq_false_iff_not, Bool.or_eq_true, Bool.and_eq_true, Bool.or_eq_false_iff, Bool.and_eq_false_iff, wi, inn] at hc2
    simp (disch := first | omega | decide) only [go_sem, f0, opn_cond, hc, if_true, act_load_t ti3, cellsOf_page]
    rw [mwp_load_b1 (by simp (disch := first | omega | decide) only [go_sem, f0, opn_cond, hc, if_true, cellsOf_page]; rfl) (by rfl)]
    exact hK _
  apply aops_merge' (by decide) (by exact want_of (d := 11) rfl (by simp (disch := first | omega | decide) only [go_sem, f0, opn_cond, cellsOf_page]; rfl))
  · intro hc K hK
    have hc2 := hc
    simp only [beq_iff_eq, decide_eq_true_eq, decide_eq_false_iff_not, Bool.or_eq_true, Bool.and_eq_true, Bool.or_eq_false_iff, Bool.and_eq_false_iff, wi, inn] at hc2
    simp (disch := first | omega | decide) only [go_sem, f0, opn_cond, hc, if_true, act_call, List.map, cellsOf_page]
    apply mwp_call_s rfl rfl rfl
    · intro Q hQ
      (simp (disch := first | omega | decide) only [go_sem, f0, opn_cond, hc, if_true, peekL, reifyL_nil, reifyL_cons, reify_v, cellsOf_page]; (exact hQ))
    · exact good_inR _ _
    · simp [-List.map_take, -List.map_drop, -List.map_append, -List.map_replicate, -List.reduceReplicate, noPtrL, noPtr, noPtrL_bsl, noPtrL_map, sub]
    · rfl
    · exact hK _
  iterate 2 (apply aops_step (by decide) rfl; · (intro K hK; simp (disch := first | omega | decide) only [go_sem, f0, cellsOf_page]; exact hK _))
  apply aops_merge' (by decide) (by exact want_of (d := 16) rfl (by simp (disch := first | omega | decide) only [go_sem, f0, opn_cond, cellsOf_page]; rfl))
  · intro hc K hK
    have hc2 := hc
    simp only [beq_iff_eq, decide_eq_true_eq, decide_eq_false_iff_not, Bool.or_eq_true, Bool.and_eq_true, Bool.or_eq_false_iff, Bool.and_eq_false_iff, wi, inn] at hc2
    simp (disch := first | omega | decide) only [go_sem, f0, opn_cond, hc, if_true, act_fieldAddr_t fo58_2, cellsOf_page]
    rw [mwp_fieldAddr_b (by simp (disch := first | omega | decide) only [go_sem, f0, opn_cond, hc, if_true, cellsOf_page]; rfl)]
    exact hK _
  apply aops_merge' (by decide) (by exact want_of (d := 16) rfl (by simp (disch := first | omega | decide) only [go_sem, f0, opn_cond, cellsOf_page]; rfl))
  · intro hc K hK
    have hc2 := hc
    simp only [beq_iff_eq, decide_eq_true_eq, decide_eq_false_iff_not, Bool.or_eq_true, Bool.and_eq_true, Bool.or_eq_false_iff, Bool.and_eq_false_iff, wi, inn] at hc2
    simp (disch := first | omega | decide) only [go_sem, f0, opn_cond, hc, if_true, act_load_t ti3, cellsOf_page]
    rw [mwp_load_b1 (by simp (disch := first | omega | decide) only [go_sem, f0, opn_cond, hc, if_true, cellsOf_page]; rfl) (by rfl)]
    exact hK _
  apply aops_merge' (by decide) (by exact want_of (d := 16) rfl (by simp (disch := first | omega | decide) only [go_sem, f0, opn_cond, cellsOf_page]; rfl))
  · intro hc K hK
    have hc2 := hc
    simp only [beq_iff_eq, decide_eq_true_eq, decide_eq_false_iff_not, Bool.or_eq_true, Bool.and_eq_true, Bool.or_eq_false_iff, Bool.and_eq_false_iff, wi, inn] at hc2
    simp (disch := first | omega | decide) only [go_sem, f0, opn_cond, hc, if_true, act_call, List.map, cellsOf_page]
    apply mwp_call_s rfl rfl rfl
    · intro Q hQ
      (simp (disch := first | omega | decide) only [go_sem, f0, opn_cond, hc, if_true, peekL, reifyL_nil, reifyL_cons, reify_v, cellsOf_page]; (exact hQ))
    · exact good_inR _ _
    · simp [-List.map_take, -List.map_drop, -List.map_append, -List.map_replicate, -List.reduceReplicate, noPtrL, noPtr, noPtrL_bsl, noPtrL_map, sub]
    · rfl
    · exact hK _
  iterate 2 (apply aops_step (by decide) rfl; · (intro K hK; simp (disch := first | omega | decide) only [go_sem, f0, cellsOf_page]; exact hK _))
  apply aops_merge' (by decide) (by exact want_of (d := 21) rfl (by simp (disch := first | omega | decide) only [go_sem, f0, opn_cond, cellsOf_page]; rfl))
  · intro hc K hK
    have hc2 := hc
    simp only [beq_iff_eq, decide_eq_true_eq, decide_eq_false_iff_not, Bool.or_eq_true, Bool.and_eq_true, Bool.or_eq_false_iff, Bool.and_eq_false_iff, wi, inn] at hc2
    simp (disch := first | omega | decide) only [go_sem, f0, opn_cond, hc, if_true, act_fieldAddr_t fo58_3, cellsOf_page]
    rw [mwp_fieldAddr_b (by simp (disch := first | omega | decide) only [go_sem, f0, opn_cond, hc, if_true, cellsOf_page]; rfl)]
    exact hK _
  apply aops_merge' (by decide) (by exact want_of (d := 21) rfl (by simp (disch := first | omega | decide) only [go_sem, f0, opn_cond, cellsOf_page]; rfl))
  · intro hc K hK
    have hc2 := hc
    simp only [beq_iff_eq, decide_eq_true_eq, decide_eq_false_iff_not, Bool.or_eq_true, Bool.and_eq_true, Bool.or_eq_false_iff, Bool.and_eq_false_iff, wi, inn] at hc2
    simp (disch := first | omega | decide) only [go_sem, f0, opn_cond, hc, if_true, act_load_t ti3, cellsOf_page]
    rw [mwp_load_b1 (by simp (disch := first | omega | decide) only [go_sem, f0, opn_cond, hc, if_true, cellsOf_page]; rfl) (by rfl)]
    exact hK _
  apply aops_merge' (by decide) (by exact want_of (d := 21) rfl (by simp (disch := first | omega | decide) only [go_sem, f0, opn_cond, cellsOf_page]; rfl))
  · intro hc K hK
    have hc2 := hc
    simp only [beq_iff_eq, decide_eq_true_eq, decide_eq_false_iff_not, Bool.or_eq_true, Bool.and_eq_true, Bool.or_eq_false_iff, Bool.and_eq_false_iff, wi, inn] at hc2
    simp (disch := first | omega | decide) only [go_sem, f0, opn_cond, hc, if_true, act_call, List.map, cellsOf_page]
    apply mwp_call_s rfl rfl rfl
    · intro Q hQ
      (simp (disch := first | omega | decide) only [go_sem, f0, opn_cond, hc, if_true, peekL, reifyL_nil, reifyL_cons, reify_v, cellsOf_page]; (exact hQ))
    · exact good_inR _ _
    · simp [-List.map_take, -List.map_drop, -List.map_append, -List.map_replicate, -List.reduceReplicate, noPtrL, noPtr, noPtrL_bsl, noPtrL_map, sub]
    · rfl
    · exact hK _
  iterate 2 (apply aops_step (by decide) rfl; · (intro K hK; simp (disch := first | omega | decide) only [go_sem, f0, cellsOf_page]; exact hK _))
  apply aops_merge' (by decide) (by exact want_of (d := 26) rfl (by simp (disch := first | omega | decide) only [go_sem, f0, opn_cond, cellsOf_page]; rfl))
  · intro hc K hK
    have hc2 := hc
    simp only [beq_iff_eq, decide_eq_true_eq, decide_eq_false_iff_not, Bool.or_eq_true, Bool.and_eq_true, Bool.or_eq_false_iff, Bool.and_eq_false_iff, wi, inn] at hc2
    simp (disch := first | omega | decide) only [go_sem, f0, opn_cond, hc, if_true, act_fieldAddr_t fo58_5, cellsOf_page]
    rw [mwp_fieldAddr_b (by simp (disch := first | omega | decide) only [go_sem, f0, opn_cond, hc, if_true, cellsOf_page]; rfl)]
    exact hK _
  apply aops_merge' (by decide) (by exact want_of (d := 26) rfl (by simp (disch := first | omega | decide) only [go_sem, f0, opn_cond, cellsOf_page]; rfl))
  · intro hc K hK
    have hc2 := hc
    simp only [beq_iff_eq, decide_eq_true_eq, decide_eq_false_iff_not, Bool.or_eq_true, Bool.and_eq_true, Bool.or_eq_false_iff, Bool.and_eq_false_iff, wi, inn] at hc2
    simp (disch := first | omega | decide) only [go_sem, f0, opn_cond, hc, if_true, act_load_t ti3, cellsOf_page]
    rw [mwp_load_b1 (by simp (disch := first | omega | decide) only [go_sem, f0, opn_cond, hc, if_true, cellsOf_page]; rfl) (by rfl)]
    exact hK _
  apply aops_merge' (by decide) (by exact want_of (d := 26) rfl (by simp (disch := first | omega | decide) only [go_sem, f0, opn_cond, cellsOf_page]; rfl))
  · intro hc K hK
    have hc2 := hc
    simp only [beq_iff_eq, decide_eq_true_eq, decide_eq_false_iff_not, Bool.or_eq_true, Bool.and_eq_true, Bool.or_eq_false_iff, Bool.and_eq_false_iff, wi, inn] at hc2
    simp (disch := first | omega | decide) only [go_sem, f0, opn_cond, hc, if_true, cellsOf_page]
    exact hK _
  iterate 2 (apply aops_step (by decide) rfl; · (intro K hK; simp (disch := first | omega | decide) only [go_sem, f0, cellsOf_page]; exact hK _))
  apply aops_merge' (by decide) (by exact want_of (d := 31) rfl (by simp (disch := first | omega | decide) only [go_sem, f0, opn_cond, cellsOf_page]; rfl))
  · intro hc K hK
    have hc2 := hc
    simp only [beq_iff_eq, decide_eq_true_eq, decide_eq_false_iff_not, Bool.or_eq_true, Bool.and_eq_true, Bool.or_eq_false_iff, Bool.and_eq_false_iff, wi, inn] at hc2
    simp (disch := first | omega | decide) only [go_sem, f0, opn_cond, hc, if_true, act_fieldAddr_t fo58_5, cellsOf_page]
    rw [mwp_fieldAddr_b (by simp (disch := first | omega | decide) only [go_sem, f0, opn_cond, hc, if_true, cellsOf_page]; rfl)]
    exact hK _
  apply aops_merge' (by decide) (by exact want_of (d := 31) rfl (by simp (disch := first | omega | decide) only [go_sem, f0, opn_cond, cellsOf_page]; rfl))
  · intro hc K hK
    have hc2 := hc
    simp only [beq_iff_eq, decide_eq_true_eq, decide_eq_false_iff_not, Bool.or_eq_true, Bool.and_eq_true, Bool.or_eq_false_iff, Bool.and_eq_false_iff, wi, inn] at hc2
    simp (disch := first | omega | decide) only [go_sem, f0, opn_cond, hc, if_true, act_load_t ti3, cellsOf_page]
    rw [mwp_load_b1 (by simp (disch := first | omega | decide) only [go_sem, f0, opn_cond, hc, if_true, cellsOf_page]; rfl) (by rfl)]
    exact hK _
  apply aops_merge' (by decide) (by exact want_of (d := 31) rfl (by simp (disch := first | omega | decide) only [go_sem, f0, opn_cond, cellsOf_page]; rfl))
  · intro hc K hK
    have hc2 := hc
    simp only [beq_iff_eq, decide_eq_true_eq, decide_eq_false_iff_not, Bool.or_eq_true, Bool.and_eq_true, Bool.or_eq_false_iff, Bool.and_eq_false_iff, wi, inn] at hc2
    simp (disch := first | omega | decide) only [go_sem, f0, opn_cond, hc, if_true, cellsOf_page]
    exact hK _
  iterate 2 (apply aops_step (by decide) rfl; · (intro K hK; simp (disch := first | omega | decide) only [go_sem, f0, cellsOf_page]; exact hK _))
  apply aops_merge' (by decide) (by exact want_of (d := 36) rfl (by simp (disch := first | omega | decide) only [go_sem, f0, opn_cond, cellsOf_page]; rfl))
  · intro hc K hK
    have hc2 := hc
    simp only [beq_iff_eq, decide_eq_true_eq, decide_eq_false_iff_not, Bool.or_eq_true, Bool.and_eq_true, Bool.or_eq_false_iff, Bool.and_eq_false_iff, wi, inn] at hc2
    simp (disch := first | omega | decide) only [go_sem, f0, opn_cond, hc, if_true, act_fieldAddr_t fo58_4, cellsOf_page]
    rw [mwp_fieldAddr_b (by simp (disch := first | omega | decide) only [go_sem, f0, opn_cond, hc, if_true, cellsOf_page]; rfl)]
    exact hK _
  apply aops_merge' (by decide) (by exact want_of (d := 36) rfl (by simp (disch := first | omega | decide) only [go_sem, f0, opn_cond, cellsOf_page]; rfl))
  · intro hc K hK
    have hc2 := hc
    simp only [beq_iff_eq, decide_eq_true_eq, decide_eq_false_iff_not, Bool.or_eq_true, Bool.and_eq_true, Bool.or_eq_false_iff, Bool.and_eq_false_iff, wi, inn] at hc2
    simp (disch := first | omega | decide) only [go_sem, f0, opn_cond, hc, if_true, act_load_t ti3, cellsOf_page]
    rw [mwp_load_b1 (by simp (disch := first | omega | decide) only [go_sem, f0, opn_cond, hc, if_true, cellsOf_page]; rfl) (by rfl)]
    exact hK _
  apply aops_merge' (by decide) (by exact want_of (d := 36) rfl (by simp (disch := first | omega | decide) only [go_sem, f0, opn_cond, cellsOf_page]; rfl))
  · intro hc K hK
    have hc2 := hc
    simp only [beq_iff_eq, decide_eq_true_eq, decide_eq_false_iff_not, Bool.or_eq_true, Bool.and_eq_true, Bool.or_eq_false_iff, Bool.and_eq_false_iff, wi, inn] at hc2
    simp (disch := first | omega | decide) only [go_sem, f0, opn_cond, hc, if_true, cellsOf_page]
    exact hK _
  iterate 2 (apply aops_step (by decide) rfl; · (intro K hK; simp (disch := first | omega | decide) only [go_sem, f0, cellsOf_page]; exact hK _))
  apply aops_merge' (by decide) (by exact want_of (d := 41) rfl (by simp (disch := first | omega | decide) only [go_sem, f0, opn_cond, cellsOf_page]; rfl))
  · intro hc K hK
    have hc2 := hc
    simp only [beq_iff_eq, decide_eq_true_eq, decide_eq_false_iff_not, Bool.or_eq_true, Bool.and_eq_true, Bool.or_eq_false_iff, Bool.and_eq_false_iff, wi, inn] at hc2
    simp (disch := first | omega | decide) only [go_sem, f0, opn_cond, hc, if_true, act_fieldAddr_t fo58_4, cellsOf_page]
    rw [mwp_fieldAddr_b (by simp (disch := first | omega | decide) only [go_sem, f0, opn_cond, hc, if_true, cellsOf_page]; rfl)]
    exact hK _
  apply aops_merge' (by decide) (by exact want_of (d := 41) rfl (by simp (disch := first | omega | decide) only [go_sem, f0, opn_cond, cellsOf_page]; rfl))
  · intro hc K hK
    have hc2 := hc
    simp only [beq_iff_eq, decide_eq_true_eq, decide_eq_false_iff_not, Bool.or_eq_true, Bool.and_eq_true, Bool.or_eq_false_iff, Bool.and_eq_false_iff, wi, inn] at hc2
    simp (disch := first | omega | decide) only [go_sem, f0, opn_cond, hc, if_true, act_load_t ti3, cellsOf_page]
    rw [mwp_load_b1 (by simp (disch := first | omega | decide) only [go_sem, f0, opn_cond, hc, if_true, cellsOf_page]; rfl) (by rfl)]
    exact hK _
  apply aops_merge' (by decide) (by exact want_of (d := 41) rfl (by simp (disch := first | omega | decide) only [go_sem, f0, opn_cond, cellsOf_page]; rfl))
  · intro hc K hK
    have hc2 := hc
    simp only [beq_iff_eq, decide_eq_true_eq, decide_eq_false_iff_not, Bool.or_eq_true, Bool.and_eq_true, Bool.or_eq_false_iff, Bool.and_eq_false_iff, wi, inn] at hc2
    simp (disch := first | omega | decide) only [go_sem, f0, opn_cond, hc, if_true, act_fieldAddr_t fo58_5, cellsOf_page]
    rw [mwp_fieldAddr_b (by simp (disch := first | omega | decide) only [go_sem, f0, opn_cond, hc, if_true, cellsOf_page]; rfl)]
    exact hK _
  apply aops_merge' (by decide) (by exact want_of (d := 41) rfl (by simp (disch := first | omega | decide) only [go_sem, f0, opn_cond, cellsOf_page]; rfl))
  · intro hc K hK
    have hc2 := hc
    simp only [beq_iff_eq, decide_eq_true_eq, decide_eq_false_iff_not, Bool.or_eq_true, Bool.and_eq_true, Bool.or_eq_false_iff, Bool.and_eq_false_iff, wi, inn] at hc2
    simp (disch := first | omega | decide) only [go_sem, f0, opn_cond, hc, if_true, act_load_t ti3, cellsOf_page]
    rw [mwp_load_b1 (by simp (disch := first | omega | decide) only [go_sem, f0, opn_cond, hc, if_true, cellsOf_page]; rfl) (by rfl)]
    exact hK _
  apply aops_merge' (by decide) (by exact want_of (d := 41) rfl (by simp (disch := first | omega | decide) only [go_sem, f0, opn_cond, cellsOf_page]; rfl))
  · intro hc K hK
    have hc2 := hc
    simp only [beq_iff_eq, decide_eq_true_eq, decide_eq_false_iff_not, Bool.or_eq_true, Bool.and_eq_true, Bool.or_eq_false_iff, Bool.and_eq_false_iff, wi, inn] at hc2
    simp (disch := first | omega | decide) only [go_sem, f0, opn_cond, hc, if_true, cellsOf_page]
    exact hK _
  iterate 2 (apply aops_step (by decide) rfl; · (intro K hK; simp (disch := first | omega | decide) only [go_sem, f0, cellsOf_page]; exact hK _))
  apply aops_merge' (by decide) (by exact want_of (d := 48) rfl (by simp (disch := first | omega | decide) only [go_sem, f0, opn_cond, cellsOf_page]; rfl))
  · intro hc K hK
    have hc2 := hc
    simp only [beq_iff_eq, decide_eq_true_eq, decide_eq_false_iff_not, Bool.or_eq_true, Bool.and_eq_true, Bool.or_eq_false_iff, Bool.and_eq_false_iff, wi, inn] at hc2
    simp (disch := first | omega | decide) only [go_sem, f0, opn_cond, hc, if_true, act_fieldAddr_t fo58_6, cellsOf_page]
    rw [mwp_fieldAddr_b (by simp (disch := first | omega | decide) only [go_sem, f0, opn_cond, hc, if_true, cellsOf_page]; rfl)]
    exact hK _
  apply aops_merge' (by decide) (by exact want_of (d := 48) rfl (by simp (disch := first | omega | decide) only [go_sem, f0, opn_cond, cellsOf_page]; rfl))
  · intro hc K hK
    have hc2 := hc
    simp only [beq_iff_eq, decide_eq_true_eq, decide_eq_false_iff_not, Bool.or_eq_true, Bool.and_eq_true, Bool.or_eq_false_iff, Bool.and_eq_false_iff, wi, inn] at hc2
    simp (disch := first | omega | decide) only [go_sem, f0, opn_cond, hc, if_true, act_load_t ti22, cellsOf_page]
    rw [mwp_load_b1 (by simp (disch := first | omega | decide) only [go_sem, f0, opn_cond, hc, if_true, cellsOf_page]; rfl) (by rfl)]
    exact hK _
  apply aops_merge' (by decide) (by exact want_of (d := 48) rfl (by simp (disch := first | omega | decide) only [go_sem, f0, opn_cond, cellsOf_page]; rfl))
  · intro hc K hK
    have hc2 := hc
    simp only [beq_iff_eq, decide_eq_true_eq, decide_eq_false_iff_not, Bool.or_eq_true, Bool.and_eq_true, Bool.or_eq_false_iff, Bool.and_eq_false_iff, wi, inn] at hc2
    simp (disch := first | omega | decide) only [go_sem, f0, opn_cond, hc, if_true, List.map, List.length_map, aops_len u22, cellsOf_page]
    exact hK _
  apply aops_merge' (by decide) (by exact want_of (d := 48) rfl (by simp (disch := first | omega | decide) only [go_sem, f0, opn_cond, cellsOf_page]; rfl))
  · intro hc K hK
    have hc2 := hc
    simp only [beq_iff_eq, decide_eq_true_eq, decide_eq_false_iff_not, Bool.or_eq_true, Bool.and_eq_true, Bool.or_eq_false_iff, Bool.and_eq_false_iff, wi, inn] at hc2
    simp (disch := first | omega | decide) only [go_sem, f0, opn_cond, hc, if_true, cellsOf_page]
    exact hK _
  iterate 2 (apply aops_step (by decide) rfl; · (intro K hK; simp (disch := first | omega | decide) only [go_sem, f0, cellsOf_page]; exact hK _))
  refine aops_nil ?_
  refine AW.ret ?_
  refine ⟨.inr rfl, ?_⟩
  refine leaves_tmp1 2 rfl ?_ (by exact hG)
  simp (disch := first | omega | decide) only [go_sem, f0, cellsOf_page]
  all_goals (rw [ok_ref]; done)

end Go.Vai.G
