import Derived.Test.YtphmphdckkhblaaProg
import Derived.Test.YtphmphdckkhblaaChkT
namespace Go.Vai.U
open Go.Proofs Go.Vai
set_option linter.unusedSimpArgs false
set_option linter.unusedVariables false
theorem u22 : Try.prog.underlying 22 = some (.slice 5) := by kernel_rfl
theorem ti5 : tiOf Try.prog 5 = some ⟨1, 1, [.base (.int .u8 0)], false⟩ := by kernel_rfl
theorem u5 : Try.prog.underlying 5 = some (.int .u8) := by kernel_rfl
theorem u25 : Try.prog.underlying 25 = some (.int .u32) := by kernel_rfl
theorem u105 : Try.prog.underlying 105 = some (.slice 22) := by kernel_rfl
theorem ti22 : tiOf Try.prog 22 = some ⟨1, 24, [.sl 0 true []], false⟩ := by kernel_rfl
theorem u3 : Try.prog.underlying 3 = some (.int .i64) := by kernel_rfl
theorem u30 : Try.prog.underlying 30 = some (.int .u64) := by kernel_rfl
theorem el22 : elOf Try.prog 22 = some 5 := by kernel_rfl
theorem el105 : elOf Try.prog 105 = some 22 := by kernel_rfl
theorem u23 : Try.prog.underlying 23 = some (.int .u16) := by kernel_rfl
theorem u4 : Try.prog.underlying 4 = some .bool := by kernel_rfl

def cfg : Cfg := { pure := fun _ => true, xfer := fun _ => false, scalar := fun _ => true }
theorem moreS_succ {r : BitVec 32} {l : List (BitVec 8)} {k : Nat} (h : k < l.length) : moreS r (l.take (k + 1)) = turns 8 (moreS r (l.take k) ^^^ (l[k]).setWidth 32) := by
  unfold moreS
  rw [List.take_succ_eq_append_getElem h, List.foldl_append]; rfl
def pslice (p : Bool × List (BitVec 8)) : AV := .sl 1 p.1 (bsl p.2)
def ofP (k : Nat) (ps : List (Bool × List (BitVec 8))) : BitVec 32 := ((ps.take k).map (·.2)).foldl moreS 4294967295#32
theorem ofP_succ {ps : List (Bool × List (BitVec 8))} {k : Nat} (h : k < ps.length) : ofP (k + 1) ps = moreS (ofP k ps) (ps[k]).2 := by
  unfold ofP
  rw [List.take_succ_eq_append_getElem h, List.map_append, List.foldl_append]; rfl
theorem ofP_all (ps : List (Bool × List (BitVec 8))) : ~~~ ofP ps.length ps = ofS ps := by simp [ofP, ofS]
theorem cellsOf_ps (p : Bool × List (BitVec 8)) : cellsOf (pslice p) = [.sl 1 p.1 (bsl p.2)] := rfl
theorem noPtr_ps (p : Bool × List (BitVec 8)) : noPtr (pslice p) = true := noPtrL_bsl p.2
theorem noPtrL_ps (ps : List (Bool × List (BitVec 8))) : noPtrL (ps.map pslice) = true := noPtrL_map noPtr_ps ps
attribute [go_sem] cellsOf_ps
def refP (k : Nat) (l : List (BitVec 8)) : BitVec 32 := (l.take k).foldl (fun r c => rbyte c 8 r) 4294967295#32
theorem refP_succ {l : List (BitVec 8)} {k : Nat} (h : k < l.length) : refP (k + 1) l = rbyte (l[k]) 8 (refP k l) := by
  unfold refP
  rw [List.take_succ_eq_append_getElem h, List.foldl_append]; rfl
theorem two32 : BitVec.ofInt 32 2 = 2#32 := rfl
theorem awakeS : ofS [(false, [49#8, 50#8, 51#8, 52#8]), (false, [53#8, 54#8, 55#8, 56#8, 57#8])] = 3421780262#32 := by decide +kernel

set_option maxHeartbeats 4000000 in
set_option maxRecDepth 100000 in
theorem good_more (r : BitVec 32) (nil : Bool) (l : List (BitVec 8)) (hl : l.length ≤ 9223372036854775807) : Good Try.prog 60 [(u32 r, false), (.sl 1 nil (bsl l), false)] [] [(u32 (moreS r l), false)] [] := by
  refine good_of_body2 31 Try.func60 rfl rfl rfl (by simp) ?_
  intro s m ha hr hv hG
  have f0 : s 0 = .v (u32 r) := ha 0 _ rfl
  have f1 : s 1 = .v (.sl 1 nil (bsl l)) := ha 1 _ rfl
  clear ha
  refine AW.seq ?_
  refine AW.region (cfg := cfg) ?_
  iterate 1 (apply aops_step (by decide) rfl; · (intro K hK; simp (disch := first | omega | decide) only [go_sem, f0, f1]; exact hK _))
  refine aops_nil ?_
  refine AW.seq ?_
  refine AW.seq ?_
  refine AW.region (cfg := cfg) ?_
  iterate 3 (apply aops_step (by decide) rfl; · (intro K hK; simp (disch := first | omega | decide) only [go_sem, f0, f1, List.map, List.length_map, aops_len u22]; exact hK _))
  refine aops_nil ?_
  refine AW.block ?_
  refine AW.forN (fun k σ => ∃ s m, σ = ⟨31, s, m⟩ ∧ s 0 = .v (u32 (moreS r (l.take k))) ∧ s 8 = .v (.sl 1 nil (bsl l)) ∧ s 9 = .v (i64 l.length) ∧ s 10 = .v (i64 k) ∧ m.G = []) (l.length) ?_ ?_ ?_
  · refine ⟨_, _, rfl, ?_, ?_, ?_, ?_, hG⟩ <;> try simp (disch := first | omega | decide) only [go_sem, f0, f1]
    · simp [moreS]
    all_goals rfl
  · clear f0 f1 hG
    rintro k σ hk ⟨s, m, rfl, f0, f8, f9, f10, hG⟩
    refine AW.seq ?_
    refine AW.region (cfg := cfg) ?_
    iterate 1 (apply aops_step (by decide) rfl; · (intro K hK; simp (disch := first | omega | decide) only [go_sem, f0, f8, f9, f10]; exact hK _))
    refine aops_nil ?_
    refine AW.seq ?_
    apply AW.cond
    · simp (disch := first | omega | decide) only [go_sem, f0, f8, f9, f10]; rfl
    case hf => intro hb; first | (simp at hb; done) | (simp at hb; omega)
    case ht =>
    intro hb
    have hbt11 := hb
    refine AW.skip ?_
    refine AW.seq ?_
    refine AW.block ?_
    refine AW.seq ?_
    refine AW.region (cfg := cfg) ?_
    iterate 3 (apply aops_step (by decide) rfl; · (intro K hK; simp (disch := first | omega | decide) only [go_sem, f0, f8, f9, f10, act_indexAddr_s u22 ti5, act_load_t ti5]; exact hK _))
    refine aops_nil ?_
    refine AW.seq ?_
    refine AW.region (cfg := cfg) ?_
    iterate 5 (apply aops_step (by decide) rfl; · (intro K hK; simp (disch := first | omega | decide) only [go_sem, f0, f8, f9, f10, act_convI u5 u25]; exact hK _))
    refine aops_nil ?_
    refine AW.seq ?_
    refine AW.region (cfg := cfg) ?_
    iterate 1 (apply aops_step (by decide) rfl; · (intro K hK; simp (disch := first | omega | decide) only [go_sem, f0, f8, f9, f10]; exact hK _))
    refine aops_nil ?_
    refine AW.block ?_
    refine AW.forN (fun j σ => ∃ s m, σ = ⟨31, s, m⟩ ∧ s 0 = .v (u32 (turns j (moreS r (l.take k) ^^^ (l[k]).setWidth 32))) ∧ s 8 = .v (.sl 1 nil (bsl l)) ∧ s 9 = .v (i64 l.length) ∧ s 10 = .v (i64 k) ∧ s 18 = .v (i64 j) ∧ m.G = []) (8) ?_ ?_ ?_
    · refine ⟨_, _, rfl, ?_, ?_, ?_, ?_, ?_, hG⟩ <;> try simp (disch := first | omega | decide) only [go_sem, f0, f8, f9, f10]
      all_goals rfl
    · clear f0 f8 f9 f10 hG
      rintro j σ hj ⟨s, m, rfl, f0, f8, f9, f10, f18, hG⟩
      refine AW.seq ?_
      refine AW.region (cfg := cfg) ?_
      iterate 1 (apply aops_step (by decide) rfl; · (intro K hK; simp (disch := first | omega | decide) only [go_sem, f0, f8, f9, f10, f18]; exact hK _))
      refine aops_nil ?_
      refine AW.seq ?_
      apply AW.cond
      · simp (disch := first | omega | decide) only [go_sem, f0, f8, f9, f10, f18]; rfl
      case hf => intro hb; first | (simp at hb; done) | (simp at hb; omega)
      case ht =>
      intro hb
      have hbt19 := hb
      refine AW.skip ?_
      refine AW.seq ?_
      refine AW.block ?_
      refine AW.seq ?_
      refine AW.region (cfg := cfg) ?_
      iterate 3 (apply aops_step (by decide) rfl; · (intro K hK; simp (disch := first | omega | decide) only [go_sem, f0, f8, f9, f10, f18]; exact hK _))
      refine aops_nil ?_
      refine AW.seq ?_
      refine AW.region (cfg := cfg) ?_
      iterate 3 (apply aops_step (by decide) rfl; · (intro K hK; simp (disch := first | omega | decide) only [go_sem, f0, f8, f9, f10, f18]; exact hK _))
      refine aops_nil ?_
      refine AW.region (cfg := cfg) ?_
      iterate 5 (apply aops_step (by decide) rfl; · (intro K hK; simp (disch := first | omega | decide) only [go_sem, f0, f8, f9, f10, f18]; exact hK _))
      refine aops_nil ?_
      refine AW.region (cfg := cfg) ?_
      iterate 2 (apply aops_step (by decide) rfl; · (intro K hK; simp (disch := first | omega | decide) only [go_sem, f0, f8, f9, f10, f18]; exact hK _))
      refine aops_nil ?_
      refine ⟨_, _, rfl, ?_, ?_, ?_, ?_, ?_, hG⟩ <;> try simp (disch := first | omega | decide) only [go_sem, f0, f8, f9, f10, f18]
      all_goals rfl
    · clear f0 f8 f9 f10 hG
      rintro σ ⟨s, m, rfl, f0, f8, f9, f10, f18, hG⟩
      refine AW.seq ?_
      refine AW.region (cfg := cfg) ?_
      iterate 1 (apply aops_step (by decide) rfl; · (intro K hK; simp (disch := first | omega | decide) only [go_sem, f0, f8, f9, f10, f18]; exact hK _))
      refine aops_nil ?_
      refine AW.seq ?_
      apply AW.cond
      · simp (disch := first | omega | decide) only [go_sem, f0, f8, f9, f10, f18]; rfl
      case ht => intro hb; first | (simp at hb; done) | (simp at hb; omega)
      case hf =>
      intro hb
      have hbt19 := hb
      refine AW.exit ?_
      refine AW.region (cfg := cfg) ?_
      iterate 2 (apply aops_step (by decide) rfl; · (intro K hK; simp (disch := first | omega | decide) only [go_sem, f0, f8, f9, f10, f18]; exact hK _))
      refine aops_nil ?_
      refine ⟨_, _, rfl, ?_, ?_, ?_, ?_, hG⟩ <;> try simp (disch := first | omega | decide) only [go_sem, f0, f8, f9, f10, f18]
      · rw [moreS_succ hk]
      all_goals rfl
  · clear f0 f1 hG
    rintro σ ⟨s, m, rfl, f0, f8, f9, f10, hG⟩
    refine AW.seq ?_
    refine AW.region (cfg := cfg) ?_
    iterate 1 (apply aops_step (by decide) rfl; · (intro K hK; simp (disch := first | omega | decide) only [go_sem, f0, f8, f9, f10]; exact hK _))
    refine aops_nil ?_
    refine AW.seq ?_
    apply AW.cond
    · simp (disch := first | omega | decide) only [go_sem, f0, f8, f9, f10]; rfl
    case ht => intro hb; first | (simp at hb; done) | (simp at hb; omega)
    case hf =>
    intro hb
    have hbt11 := hb
    refine AW.exit ?_
    refine AW.seq ?_
    refine AW.region (cfg := cfg) ?_
    iterate 2 (apply aops_step (by decide) rfl; · (intro K hK; simp (disch := first | omega | decide) only [go_sem, f0, f8, f9, f10]; exact hK _))
    refine aops_nil ?_
    refine AW.ret ?_
    refine ⟨.inr rfl, ?_⟩
    refine leaves_tmp1 4 rfl ?_ hG
    simp (disch := first | omega | decide) only [go_sem, f0, f8, f9, f10]
    simp

set_option maxHeartbeats 4000000 in
set_option maxRecDepth 100000 in
theorem good_Of (nil : Bool) (ps : List (Bool × List (BitVec 8))) (hl : ps.length ≤ 9223372036854775807) (hp : ∀ p ∈ ps, p.2.length ≤ 9223372036854775807) : Good Try.prog 19 [(.sl 1 nil (ps.map pslice), false)] [] [(u32 (ofS ps), false)] [] := by
  refine good_of_body2 18 Try.func19 rfl rfl rfl (by simp) ?_
  intro s m ha hr hv hG
  have f0 : s 0 = .v (.sl 1 nil (ps.map pslice)) := ha 0 _ rfl
  clear ha
  refine AW.seq ?_
  refine AW.region (cfg := cfg) ?_
  iterate 1 (apply aops_step (by decide) rfl; · (intro K hK; simp (disch := first | omega | decide) only [go_sem, f0]; exact hK _))
  refine aops_nil ?_
  refine AW.seq ?_
  refine AW.region (cfg := cfg) ?_
  iterate 1 (apply aops_step (by decide) rfl; · (intro K hK; simp (disch := first | omega | decide) only [go_sem, f0]; exact hK _))
  refine aops_nil ?_
  refine AW.seq ?_
  refine AW.seq ?_
  refine AW.region (cfg := cfg) ?_
  iterate 3 (apply aops_step (by decide) rfl; · (intro K hK; simp (disch := first | omega | decide) only [go_sem, f0, List.map, List.length_map, aops_len u105]; exact hK _))
  refine aops_nil ?_
  refine AW.block ?_
  refine AW.forN (fun k σ => ∃ s m, σ = ⟨18, s, m⟩ ∧ s 3 = .v (u32 (ofP k ps)) ∧ s 6 = .v (.sl 1 nil (ps.map pslice)) ∧ s 7 = .v (i64 ps.length) ∧ s 8 = .v (i64 k) ∧ m.G = []) (ps.length) ?_ ?_ ?_
  · refine ⟨_, _, rfl, ?_, ?_, ?_, ?_, hG⟩ <;> try simp (disch := first | omega | decide) only [go_sem, f0]
    all_goals rfl
  · clear f0 hG
    rintro k σ hk ⟨s, m, rfl, f3, f6, f7, f8, hG⟩
    refine AW.seq ?_
    refine AW.region (cfg := cfg) ?_
    iterate 1 (apply aops_step (by decide) rfl; · (intro K hK; simp (disch := first | omega | decide) only [go_sem, f3, f6, f7, f8]; exact hK _))
    refine aops_nil ?_
    refine AW.seq ?_
    apply AW.cond
    · simp (disch := first | omega | decide) only [go_sem, f3, f6, f7, f8]; rfl
    case hf => intro hb; first | (simp at hb; done) | (simp at hb; omega)
    case ht =>
    intro hb
    have hbt9 := hb
    refine AW.skip ?_
    refine AW.seq ?_
    refine AW.block ?_
    refine AW.seq ?_
    refine AW.region (cfg := cfg) ?_
    iterate 3 (apply aops_step (by decide) rfl; · (intro K hK; simp (disch := first | omega | decide) only [go_sem, f3, f6, f7, f8, act_indexAddr_s u105 ti22, act_load_t ti22]; exact hK _))
    refine aops_nil ?_
    refine AW.region (cfg := cfg) ?_
    iterate 2 (apply aops_step (by decide) rfl; · (intro K hK; simp (disch := first | omega | decide) only [go_sem, f3, f6, f7, f8]; exact hK _))
    apply aops_step (by decide) rfl
    · intro K hK
      simp (disch := first | omega | decide) only [go_sem, f3, f6, f7, f8, act_call, List.map]
      apply mwp_call_s rfl rfl rfl
      · intro Q hQ
        simp (disch := first | omega | decide) only [go_sem, f3, f6, f7, f8, peekL, reifyL_nil, reifyL_cons, reify_v]
        first | exact hQ | ((first | rw [peek_own (by simp (disch := first | omega | decide) only [go_sem, f3, f6, f7, f8, peekL]; rfl)] | rw [mwp_reify_own (by simp (disch := first | omega | decide) only [go_sem, f3, f6, f7, f8, peekL]; rfl)]); exact hQ) | ((first | rw [peek_own (by simp (disch := first | omega | decide) only [go_sem, f3, f6, f7, f8, peekL]; rfl)] | rw [mwp_reify_own (by simp (disch := first | omega | decide) only [go_sem, f3, f6, f7, f8, peekL]; rfl)]); simp (disch := first | omega | decide) only [go_sem, f3, f6, f7, f8, peekL]; (first | rw [peek_own (by simp (disch := first | omega | decide) only [go_sem, f3, f6, f7, f8, peekL]; rfl)] | rw [mwp_reify_own (by simp (disch := first | omega | decide) only [go_sem, f3, f6, f7, f8, peekL]; rfl)]); exact hQ) | ((first | rw [peek_own (by simp (disch := first | omega | decide) only [go_sem, f3, f6, f7, f8, peekL]; rfl)] | rw [mwp_reify_own (by simp (disch := first | omega | decide) only [go_sem, f3, f6, f7, f8, peekL]; rfl)]); simp (disch := first | omega | decide) only [go_sem, f3, f6, f7, f8, peekL]; exact hQ)
      · exact good_more _ _ _ (hp _ (List.getElem_mem _))
      · simp [-List.map_take, -List.map_drop, noPtrL, noPtr, noPtrL_bsl, noPtrL_map, sub]
      · rfl
      · exact hK _
    iterate 1 (apply aops_step (by decide) rfl; · (intro K hK; simp (disch := first | omega | decide) only [go_sem, f3, f6, f7, f8]; exact hK _))
    refine aops_nil ?_
    refine AW.region (cfg := cfg) ?_
    iterate 2 (apply aops_step (by decide) rfl; · (intro K hK; simp (disch := first | omega | decide) only [go_sem, f3, f6, f7, f8]; exact hK _))
    refine aops_nil ?_
    refine ⟨_, _, rfl, ?_, ?_, ?_, ?_, hG⟩ <;> try simp (disch := first | omega | decide) only [go_sem, f3, f6, f7, f8]
    · rw [ofP_succ hk]
    all_goals rfl
  · clear f0 hG
    rintro σ ⟨s, m, rfl, f3, f6, f7, f8, hG⟩
    refine AW.seq ?_
    refine AW.region (cfg := cfg) ?_
    iterate 1 (apply aops_step (by decide) rfl; · (intro K hK; simp (disch := first | omega | decide) only [go_sem, f3, f6, f7, f8]; exact hK _))
    refine aops_nil ?_
    refine AW.seq ?_
    apply AW.cond
    · simp (disch := first | omega | decide) only [go_sem, f3, f6, f7, f8]; rfl
    case ht => intro hb; first | (simp at hb; done) | (simp at hb; omega)
    case hf =>
    intro hb
    have hbt9 := hb
    refine AW.exit ?_
    refine AW.seq ?_
    refine AW.region (cfg := cfg) ?_
    iterate 3 (apply aops_step (by decide) rfl; · (intro K hK; simp (disch := first | omega | decide) only [go_sem, f3, f6, f7, f8]; exact hK _))
    refine aops_nil ?_
    refine AW.ret ?_
    refine ⟨.inr rfl, ?_⟩
    refine leaves_tmp1 2 rfl ?_ hG
    simp (disch := first | omega | decide) only [go_sem, f3, f6, f7, f8]
    rw [ofP_all]

set_option maxHeartbeats 4000000 in
set_option maxRecDepth 100000 in
theorem good_refOf (nil : Bool) (l : List (BitVec 8)) (hl : l.length ≤ 9223372036854775807) : Good Try.prog 20 [(.sl 1 nil (bsl l), false)] [] [(u32 (refS l), false)] [] := by
  refine good_of_body2 38 Try.func20 rfl rfl rfl (by simp) ?_
  intro s m ha hr hv hG
  have f0 : s 0 = .v (.sl 1 nil (bsl l)) := ha 0 _ rfl
  clear ha
  refine AW.seq ?_
  refine AW.region (cfg := cfg) ?_
  iterate 1 (apply aops_step (by decide) rfl; · (intro K hK; simp (disch := first | omega | decide) only [go_sem, f0]; exact hK _))
  refine aops_nil ?_
  refine AW.seq ?_
  refine AW.region (cfg := cfg) ?_
  iterate 1 (apply aops_step (by decide) rfl; · (intro K hK; simp (disch := first | omega | decide) only [go_sem, f0]; exact hK _))
  refine aops_nil ?_
  refine AW.seq ?_
  refine AW.seq ?_
  refine AW.region (cfg := cfg) ?_
  iterate 1 (apply aops_step (by decide) rfl; · (intro K hK; simp (disch := first | omega | decide) only [go_sem, f0]; exact hK _))
  refine aops_nil ?_
  refine AW.block ?_
  refine AW.forN (fun k σ => ∃ s m, σ = ⟨38, s, m⟩ ∧ s 0 = .v (.sl 1 nil (bsl l)) ∧ s 3 = .v (u32 (refP k l)) ∧ s 4 = .v (i64 k) ∧ m.G = []) (l.length) ?_ ?_ ?_
  · refine ⟨_, _, rfl, ?_, ?_, ?_, hG⟩ <;> try simp (disch := first | omega | decide) only [go_sem, f0]
    all_goals rfl
  · clear f0 hG
    rintro k σ hk ⟨s, m, rfl, f0, f3, f4, hG⟩
    refine AW.seq ?_
    refine AW.seq ?_
    refine AW.region (cfg := cfg) ?_
    iterate 4 (apply aops_step (by decide) rfl; · (intro K hK; simp (disch := first | omega | decide) only [go_sem, f0, f3, f4, List.map, List.length_map, aops_len u22]; exact hK _))
    refine aops_nil ?_
    apply AW.cond
    · simp (disch := first | omega | decide) only [go_sem, f0, f3, f4]; rfl
    case hf => intro hb; first | (simp at hb; done) | (simp at hb; omega)
    case ht =>
    intro hb
    have hbt11 := hb
    refine AW.skip ?_
    refine AW.seq ?_
    refine AW.block ?_
    refine AW.seq ?_
    refine AW.region (cfg := cfg) ?_
    iterate 1 (apply aops_step (by decide) rfl; · (intro K hK; simp (disch := first | omega | decide) only [go_sem, f0, f3, f4]; exact hK _))
    refine aops_nil ?_
    refine AW.block ?_
    refine AW.forN (fun j σ => ∃ s m, σ = ⟨38, s, m⟩ ∧ s 0 = .v (.sl 1 nil (bsl l)) ∧ s 3 = .v (u32 (rbyte (l[k]) j (refP k l))) ∧ s 4 = .v (i64 k) ∧ s 5 = .v (i64 j) ∧ m.G = []) (8) ?_ ?_ ?_
    · refine ⟨_, _, rfl, ?_, ?_, ?_, ?_, hG⟩ <;> try simp (disch := first | omega | decide) only [go_sem, f0, f3, f4]
      all_goals rfl
    · clear f0 f3 f4 hG
      rintro j σ hj ⟨s, m, rfl, f0, f3, f4, f5, hG⟩
      refine AW.seq ?_
      refine AW.seq ?_
      refine AW.region (cfg := cfg) ?_
      iterate 2 (apply aops_step (by decide) rfl; · (intro K hK; simp (disch := first | omega | decide) only [go_sem, f0, f3, f4, f5]; exact hK _))
      refine aops_nil ?_
      apply AW.cond
      · simp (disch := first | omega | decide) only [go_sem, f0, f3, f4, f5]; rfl
      case hf => intro hb; first | (simp at hb; done) | (simp at hb; omega)
      case ht =>
      intro hb
      have hbt15 := hb
      refine AW.skip ?_
      refine AW.seq ?_
      refine AW.block ?_
      refine AW.seq ?_
      refine AW.region (cfg := cfg) ?_
      iterate 10 (apply aops_step (by decide) rfl; · (intro K hK; simp (disch := first | omega | decide) only [go_sem, f0, f3, f4, f5, act_indexAddr_s u22 ti5, act_load_t ti5, act_convI u5 u25, act_convI u3 u30]; exact hK _))
      refine aops_nil ?_
      refine AW.seq ?_
      refine AW.region (cfg := cfg) ?_
      iterate 3 (apply aops_step (by decide) rfl; · (intro K hK; simp (disch := first | omega | decide) only [go_sem, f0, f3, f4, f5]; exact hK _))
      refine aops_nil ?_
      refine AW.seq ?_
      refine AW.region (cfg := cfg) ?_
      iterate 3 (apply aops_step (by decide) rfl; · (intro K hK; simp (disch := first | omega | decide) only [go_sem, f0, f3, f4, f5]; exact hK _))
      refine aops_nil ?_
      refine AW.seq ?_
      refine AW.region (cfg := cfg) ?_
      iterate 3 (apply aops_step (by decide) rfl; · (intro K hK; simp (disch := first | omega | decide) only [go_sem, f0, f3, f4, f5]; exact hK _))
      refine aops_nil ?_
      apply AW.cond
      · simp (disch := first | omega | decide) only [go_sem, f0, f3, f4, f5]; rfl
      case ht =>
        intro hb
        try simp only [Bool.or_eq_true, Bool.and_eq_true, Bool.or_eq_false_iff, Bool.and_eq_false_iff, decide_eq_true_eq, decide_eq_false_iff_not] at hb
        have hbt33 := hb
        refine AW.region (cfg := cfg) ?_
        iterate 3 (apply aops_step (by decide) rfl; · (intro K hK; simp (disch := first | omega | decide) only [go_sem, f0, f3, f4, f5]; exact hK _))
        refine aops_nil ?_
        refine AW.region (cfg := cfg) ?_
        iterate 3 (apply aops_step (by decide) rfl; · (intro K hK; simp (disch := first | omega | decide) only [go_sem, f0, f3, f4, f5]; exact hK _))
        refine aops_nil ?_
        refine ⟨_, _, rfl, ?_, ?_, ?_, ?_, hG⟩ <;> try simp (disch := first | omega | decide) only [go_sem, f0, f3, f4, f5]
        · rw [two32] at hb
          rcases Classical.em (((l[k]).setWidth 32 >>> j) % 2#32 = rbyte (l[k]) j (refP k l) % 2#32) with h | h
          · first | exact absurd (congrArg (fun z : BitVec 32 => (z.toNat : Int)) h) hb | (rw [rbyte, rstep, if_neg (fun c => c h)]; rfl)
          · first | (rw [rbyte, rstep, if_pos h]; rfl) | exact absurd (BitVec.eq_of_toNat_eq (by omega)) h
        all_goals rfl
      case hf =>
        intro hb
        try simp only [Bool.or_eq_true, Bool.and_eq_true, Bool.or_eq_false_iff, Bool.and_eq_false_iff, decide_eq_true_eq, decide_eq_false_iff_not] at hb
        have hbt33 := hb
        refine AW.skip ?_
        refine AW.region (cfg := cfg) ?_
        iterate 3 (apply aops_step (by decide) rfl; · (intro K hK; simp (disch := first | omega | decide) only [go_sem, f0, f3, f4, f5]; exact hK _))
        refine aops_nil ?_
        refine ⟨_, _, rfl, ?_, ?_, ?_, ?_, hG⟩ <;> try simp (disch := first | omega | decide) only [go_sem, f0, f3, f4, f5]
        · rw [two32] at hb
          rcases Classical.em (((l[k]).setWidth 32 >>> j) % 2#32 = rbyte (l[k]) j (refP k l) % 2#32) with h | h
          · first | exact absurd (congrArg (fun z : BitVec 32 => (z.toNat : Int)) h) hb | (rw [rbyte, rstep, if_neg (fun c => c h)]; rfl)
          · first | (rw [rbyte, rstep, if_pos h]; rfl) | exact absurd (BitVec.eq_of_toNat_eq (by omega)) h
        all_goals rfl
    · clear f0 f3 f4 hG
      rintro σ ⟨s, m, rfl, f0, f3, f4, f5, hG⟩
      refine AW.seq ?_
      refine AW.seq ?_
      refine AW.region (cfg := cfg) ?_
      iterate 2 (apply aops_step (by decide) rfl; · (intro K hK; simp (disch := first | omega | decide) only [go_sem, f0, f3, f4, f5]; exact hK _))
      refine aops_nil ?_
      apply AW.cond
      · simp (disch := first | omega | decide) only [go_sem, f0, f3, f4, f5]; rfl
      case ht => intro hb; first | (simp at hb; done) | (simp at hb; omega)
      case hf =>
      intro hb
      have hbt15 := hb
      refine AW.exit ?_
      refine AW.region (cfg := cfg) ?_
      iterate 3 (apply aops_step (by decide) rfl; · (intro K hK; simp (disch := first | omega | decide) only [go_sem, f0, f3, f4, f5]; exact hK _))
      refine aops_nil ?_
      refine ⟨_, _, rfl, ?_, ?_, ?_, hG⟩ <;> try simp (disch := first | omega | decide) only [go_sem, f0, f3, f4, f5]
      · rw [refP_succ hk]
      all_goals rfl
  · clear f0 hG
    rintro σ ⟨s, m, rfl, f0, f3, f4, hG⟩
    refine AW.seq ?_
    refine AW.seq ?_
    refine AW.region (cfg := cfg) ?_
    iterate 4 (apply aops_step (by decide) rfl; · (intro K hK; simp (disch := first | omega | decide) only [go_sem, f0, f3, f4, List.map, List.length_map, aops_len u22]; exact hK _))
    refine aops_nil ?_
    apply AW.cond
    · simp (disch := first | omega | decide) only [go_sem, f0, f3, f4]; rfl
    case ht => intro hb; first | (simp at hb; done) | (simp at hb; omega)
    case hf =>
    intro hb
    have hbt11 := hb
    refine AW.exit ?_
    refine AW.seq ?_
    refine AW.region (cfg := cfg) ?_
    iterate 3 (apply aops_step (by decide) rfl; · (intro K hK; simp (disch := first | omega | decide) only [go_sem, f0, f3, f4]; exact hK _))
    refine aops_nil ?_
    refine AW.ret ?_
    refine ⟨.inr rfl, ?_⟩
    refine leaves_tmp1 2 rfl ?_ hG
    simp (disch := first | omega | decide) only [go_sem, f0, f3, f4]
    simp [refS, refP]

set_option maxHeartbeats 4000000 in
set_option maxRecDepth 100000 in
theorem good_awake  : Good Try.prog 18 [] [] [(.b true, false)] [] := by
  refine good_of_body2 8 Try.func18 rfl rfl rfl (by simp) ?_
  intro s m ha hr hv hG
  clear ha
  refine AW.seq ?_
  refine AW.region (cfg := cfg) ?_
  iterate 1 (apply aops_step (by decide) rfl; · (intro K hK; simp (disch := first | omega | decide) only [go_sem, awakeS]; exact hK _))
  refine aops_nil ?_
  refine AW.seq ?_
  refine AW.region (cfg := cfg) ?_
  apply aops_step (by decide) rfl
  · intro K hK
    rw [act_bs el22 ti5]
    first | (simp [-List.map_take, -List.map_drop, go_sem, elems_v, cellishAV, Value.oneCell', isAggAV, partsOf, TI.z, TI.mk1]; exact hK _) | (simp (disch := first | omega | decide) only [go_sem, List.map, elems_cons, awakeS]; rw [if_pos (by decide)]; simp (disch := first | omega | decide) only [go_sem, List.map, elems_cons, awakeS]; rw [mwp_reify_own (by simp (disch := first | omega | decide) only [go_sem, List.map, elems_cons, awakeS]; rfl)]; (first | rw [sub_full (by simp)] | skip); simp [-List.map_take, -List.map_drop, go_sem, cellishAV, Value.oneCell', isAggAV, partsOf, TI.z, TI.mk1, mwp_if, sub]; exact hK _)
  apply aops_step (by decide) rfl
  · intro K hK
    rw [act_convB u22 u5]
    simp (disch := first | omega | decide) only [go_sem, awakeS]
    rw [convN_eq (by simp (disch := first | omega | decide) only [go_sem, awakeS]; rfl)]
    exact hK _
  apply aops_step (by decide) rfl
  · intro K hK
    rw [act_bs el22 ti5]
    first | (simp [-List.map_take, -List.map_drop, go_sem, elems_v, cellishAV, Value.oneCell', isAggAV, partsOf, TI.z, TI.mk1]; exact hK _) | (simp (disch := first | omega | decide) only [go_sem, List.map, elems_cons, awakeS]; rw [if_pos (by decide)]; simp (disch := first | omega | decide) only [go_sem, List.map, elems_cons, awakeS]; rw [mwp_reify_own (by simp (disch := first | omega | decide) only [go_sem, List.map, elems_cons, awakeS]; rfl)]; (first | rw [sub_full (by simp)] | skip); simp [-List.map_take, -List.map_drop, go_sem, cellishAV, Value.oneCell', isAggAV, partsOf, TI.z, TI.mk1, mwp_if, sub]; exact hK _)
  apply aops_step (by decide) rfl
  · intro K hK
    rw [act_convB u22 u5]
    simp (disch := first | omega | decide) only [go_sem, awakeS]
    rw [convN_eq (by simp (disch := first | omega | decide) only [go_sem, awakeS]; rfl)]
    exact hK _
  apply aops_step (by decide) rfl
  · intro K hK
    rw [act_bs el105 ti22]
    first | (simp [-List.map_take, -List.map_drop, go_sem, elems_v, cellishAV, Value.oneCell', isAggAV, partsOf, TI.z, TI.mk1]; exact hK _) | (simp (disch := first | omega | decide) only [go_sem, List.map, elems_cons, awakeS]; rw [if_pos (by decide)]; simp (disch := first | omega | decide) only [go_sem, List.map, elems_cons, awakeS]; rw [mwp_reify_own (by simp (disch := first | omega | decide) only [go_sem, List.map, elems_cons, awakeS]; rfl)]; (first | rw [sub_full (by simp)] | skip); simp [-List.map_take, -List.map_drop, go_sem, cellishAV, Value.oneCell', isAggAV, partsOf, TI.z, TI.mk1, mwp_if, sub]; exact hK _)
  apply aops_step (by decide) rfl
  · intro K hK
    simp (disch := first | omega | decide) only [go_sem, act_call, List.map, awakeS]
    apply mwp_call_s rfl rfl rfl
    · intro Q hQ
      simp (disch := first | omega | decide) only [go_sem, peekL, reifyL_nil, reifyL_cons, reify_v, awakeS]
      first | exact hQ | ((first | rw [peek_own (by simp (disch := first | omega | decide) only [go_sem, peekL, awakeS]; rfl)] | rw [mwp_reify_own (by simp (disch := first | omega | decide) only [go_sem, peekL, awakeS]; rfl)]); exact hQ) | ((first | rw [peek_own (by simp (disch := first | omega | decide) only [go_sem, peekL, awakeS]; rfl)] | rw [mwp_reify_own (by simp (disch := first | omega | decide) only [go_sem, peekL, awakeS]; rfl)]); simp (disch := first | omega | decide) only [go_sem, peekL, awakeS]; (first | rw [peek_own (by simp (disch := first | omega | decide) only [go_sem, peekL, awakeS]; rfl)] | rw [mwp_reify_own (by simp (disch := first | omega | decide) only [go_sem, peekL, awakeS]; rfl)]); exact hQ) | ((first | rw [peek_own (by simp (disch := first | omega | decide) only [go_sem, peekL, awakeS]; rfl)] | rw [mwp_reify_own (by simp (disch := first | omega | decide) only [go_sem, peekL, awakeS]; rfl)]); simp (disch := first | omega | decide) only [go_sem, peekL, awakeS]; exact hQ)
    · exact good_Of false [(false, [49#8, 50#8, 51#8, 52#8]), (false, [53#8, 54#8, 55#8, 56#8, 57#8])] (by decide) (by decide)
    · simp [-List.map_take, -List.map_drop, noPtrL, noPtr, noPtrL_bsl, noPtrL_map, sub]
    · rfl
    · exact hK _
  iterate 2 (apply aops_step (by decide) rfl; · (intro K hK; simp (disch := first | omega | decide) only [go_sem, awakeS]; exact hK _))
  refine aops_nil ?_
  refine AW.ret ?_
  refine ⟨.inr rfl, ?_⟩
  refine leaves_tmp1 0 rfl ?_ (by first | rfl | exact hG)
  simp (disch := first | omega | decide) only [go_sem, awakeS]
  rfl

set_option maxHeartbeats 4000000 in
set_option maxRecDepth 100000 in
theorem good_CheckOf (nil : Bool) (l : List (BitVec 8)) (x y : Int) (hl : l.length ≤ 9223372036854775807) (hx : 0 ≤ x ∧ x ≤ 65535) (hy : 0 ≤ y ∧ y ≤ 65535) : Good Try.prog 3 [(.sl 1 nil (bsl l), false), (.i .u16 x, false), (.i .u16 y, false)] [] [(.b true, false)] [] := by
  refine good_of_body2 55 Try.func3 rfl rfl rfl (by simp) ?_
  intro s m ha hr hv hG
  have f0 : s 0 = .v (.sl 1 nil (bsl l)) := ha 0 _ rfl
  have f1 : s 1 = .v (.i .u16 x) := ha 1 _ rfl
  have f2 : s 2 = .v (.i .u16 y) := ha 2 _ rfl
  clear ha
  have hn : (0:Int) < (l.length:Int) + 1 := by omega
  have i0 := Int.emod_nonneg x (show ((l.length:Int)+1) ≠ 0 by omega)
  have i1 := Int.emod_lt_of_pos x hn
  have k0 := Int.emod_nonneg y (show ((l.length:Int)+1 - x % ((l.length:Int)+1)) ≠ 0 by omega)
  have k1 := Int.emod_lt_of_pos y (show 0 < ((l.length:Int)+1 - x % ((l.length:Int)+1)) by omega)
  have h3 := ref_of3 nil l (x % ((l.length:Int)+1)).toNat (x % ((l.length:Int)+1) + y % ((l.length:Int)+1 - x % ((l.length:Int)+1))).toNat (by omega)
  refine AW.seq ?_
  refine AW.region (cfg := cfg) ?_
  iterate 1 (apply aops_step (by decide) rfl; · (intro K hK; simp (disch := first | omega | decide) only [go_sem, f0, f1, f2, h3, ref_of nil l, eq_self, decide_true]; exact hK _))
  refine aops_nil ?_
  refine AW.seq ?_
  refine AW.seq ?_
  refine AW.region (cfg := cfg) ?_
  iterate 3 (apply aops_step (by decide) rfl; · (intro K hK; simp (disch := first | omega | decide) only [go_sem, f0, f1, f2, List.map, List.length_map, aops_len u22, h3, ref_of nil l, eq_self, decide_true]; exact hK _))
  refine aops_nil ?_
  apply AW.cond
  · simp (disch := first | omega | decide) only [go_sem, f0, f1, f2, h3, ref_of nil l, eq_self, decide_true]; rfl
  case ht =>
    intro hb
    try simp only [Bool.or_eq_true, Bool.and_eq_true, Bool.or_eq_false_iff, Bool.and_eq_false_iff, decide_eq_true_eq, decide_eq_false_iff_not] at hb
    have hbt11 := hb
    refine AW.seq ?_
    refine AW.region (cfg := cfg) ?_
    apply aops_step (by decide) rfl
    · intro K hK
      simp (disch := first | omega | decide) only [go_sem, f0, f1, f2, act_call, List.map, h3, ref_of nil l, eq_self, decide_true]
      apply mwp_call_s rfl rfl rfl
      · intro Q hQ
        simp (disch := first | omega | decide) only [go_sem, f0, f1, f2, peekL, reifyL_nil, reifyL_cons, reify_v, h3, ref_of nil l, eq_self, decide_true]
        first | exact hQ | ((first | rw [peek_own (by simp (disch := first | omega | decide) only [go_sem, f0, f1, f2, peekL, h3, ref_of nil l, eq_self, decide_true]; rfl)] | rw [mwp_reify_own (by simp (disch := first | omega | decide) only [go_sem, f0, f1, f2, peekL, h3, ref_of nil l, eq_self, decide_true]; rfl)]); exact hQ) | ((first | rw [peek_own (by simp (disch := first | omega | decide) only [go_sem, f0, f1, f2, peekL, h3, ref_of nil l, eq_self, decide_true]; rfl)] | rw [mwp_reify_own (by simp (disch := first | omega | decide) only [go_sem, f0, f1, f2, peekL, h3, ref_of nil l, eq_self, decide_true]; rfl)]); simp (disch := first | omega | decide) only [go_sem, f0, f1, f2, peekL, h3, ref_of nil l, eq_self, decide_true]; (first | rw [peek_own (by simp (disch := first | omega | decide) only [go_sem, f0, f1, f2, peekL, h3, ref_of nil l, eq_self, decide_true]; rfl)] | rw [mwp_reify_own (by simp (disch := first | omega | decide) only [go_sem, f0, f1, f2, peekL, h3, ref_of nil l, eq_self, decide_true]; rfl)]); exact hQ) | ((first | rw [peek_own (by simp (disch := first | omega | decide) only [go_sem, f0, f1, f2, peekL, h3, ref_of nil l, eq_self, decide_true]; rfl)] | rw [mwp_reify_own (by simp (disch := first | omega | decide) only [go_sem, f0, f1, f2, peekL, h3, ref_of nil l, eq_self, decide_true]; rfl)]); simp (disch := first | omega | decide) only [go_sem, f0, f1, f2, peekL, h3, ref_of nil l, eq_self, decide_true]; exact hQ)
      · exact good_awake
      · simp [-List.map_take, -List.map_drop, noPtrL, noPtr, noPtrL_bsl, noPtrL_map, sub]
      · rfl
      · exact hK _
    iterate 1 (apply aops_step (by decide) rfl; · (intro K hK; simp (disch := first | omega | decide) only [go_sem, f0, f1, f2, h3, ref_of nil l, eq_self, decide_true]; exact hK _))
    refine aops_nil ?_
    refine AW.ret ?_
    refine ⟨.inr rfl, ?_⟩
    refine leaves_tmp1 6 rfl ?_ (by first | rfl | exact hG)
    simp (disch := first | omega | decide) only [go_sem, f0, f1, f2, h3, ref_of nil l, eq_self, decide_true]
  case hf =>
    intro hb
    try simp only [Bool.or_eq_true, Bool.and_eq_true, Bool.or_eq_false_iff, Bool.and_eq_false_iff, decide_eq_true_eq, decide_eq_false_iff_not] at hb
    have hbt11 := hb
    refine AW.skip ?_
    refine AW.seq ?_
    refine AW.region (cfg := cfg) ?_
    iterate 7 (apply aops_step (by decide) rfl; · (intro K hK; simp (disch := first | omega | decide) only [go_sem, f0, f1, f2, act_convI u23 u3, List.map, List.length_map, aops_len u22, h3, ref_of nil l, eq_self, decide_true]; exact hK _))
    refine aops_nil ?_
    refine AW.seq ?_
    refine AW.region (cfg := cfg) ?_
    iterate 11 (apply aops_step (by decide) rfl; · (intro K hK; simp (disch := first | omega | decide) only [go_sem, f0, f1, f2, act_convI u23 u3, List.map, List.length_map, aops_len u22, h3, ref_of nil l, eq_self, decide_true]; exact hK _))
    refine aops_nil ?_
    refine AW.seq ?_
    refine AW.draw (cfg := cfg) (by kernel_rfl) (by kernel_rfl) (by kernel_rfl) ?_
    iterate 1 (apply adraw_step rfl; · (intro K hK; simp (disch := first | omega | decide) only [go_sem, f0, f1, f2, h3, ref_of nil l, eq_self, decide_true]; exact hK))
    apply adraw_step rfl
    · intro K hK
      rw [act_bs el105 ti22]
      first | (simp [-List.map_take, -List.map_drop, go_sem, elems_v, cellishAV, Value.oneCell', isAggAV, partsOf, TI.z, TI.mk1, f0, f1, f2]; exact hK) | (simp (disch := first | omega | decide) only [go_sem, f0, f1, f2, List.map, elems_cons, h3, ref_of nil l, eq_self, decide_true]; rw [if_pos (by decide)]; simp (disch := first | omega | decide) only [go_sem, f0, f1, f2, List.map, elems_cons, h3, ref_of nil l, eq_self, decide_true]; rw [mwp_reify_own (by simp (disch := first | omega | decide) only [go_sem, f0, f1, f2, List.map, elems_cons, h3, ref_of nil l, eq_self, decide_true]; rfl)]; (first | rw [sub_full (by simp)] | skip); simp [-List.map_take, -List.map_drop, go_sem, cellishAV, Value.oneCell', isAggAV, partsOf, TI.z, TI.mk1, mwp_if, sub]; exact hK)
    apply adraw_step rfl
    · intro K hK
      simp (disch := first | omega | decide) only [go_sem, f0, f1, f2, act_call, List.map, h3, ref_of nil l, eq_self, decide_true]
      apply mwp_call_s rfl rfl rfl
      · intro Q hQ
        simp (disch := first | omega | decide) only [go_sem, f0, f1, f2, peekL, reifyL_nil, reifyL_cons, reify_v, h3, ref_of nil l, eq_self, decide_true]
        first | exact hQ | ((first | rw [peek_own (by simp (disch := first | omega | decide) only [go_sem, f0, f1, f2, peekL, h3, ref_of nil l, eq_self, decide_true]; rfl)] | rw [mwp_reify_own (by simp (disch := first | omega | decide) only [go_sem, f0, f1, f2, peekL, h3, ref_of nil l, eq_self, decide_true]; rfl)]); exact hQ) | ((first | rw [peek_own (by simp (disch := first | omega | decide) only [go_sem, f0, f1, f2, peekL, h3, ref_of nil l, eq_self, decide_true]; rfl)] | rw [mwp_reify_own (by simp (disch := first | omega | decide) only [go_sem, f0, f1, f2, peekL, h3, ref_of nil l, eq_self, decide_true]; rfl)]); simp (disch := first | omega | decide) only [go_sem, f0, f1, f2, peekL, h3, ref_of nil l, eq_self, decide_true]; (first | rw [peek_own (by simp (disch := first | omega | decide) only [go_sem, f0, f1, f2, peekL, h3, ref_of nil l, eq_self, decide_true]; rfl)] | rw [mwp_reify_own (by simp (disch := first | omega | decide) only [go_sem, f0, f1, f2, peekL, h3, ref_of nil l, eq_self, decide_true]; rfl)]); exact hQ) | ((first | rw [peek_own (by simp (disch := first | omega | decide) only [go_sem, f0, f1, f2, peekL, h3, ref_of nil l, eq_self, decide_true]; rfl)] | rw [mwp_reify_own (by simp (disch := first | omega | decide) only [go_sem, f0, f1, f2, peekL, h3, ref_of nil l, eq_self, decide_true]; rfl)]); simp (disch := first | omega | decide) only [go_sem, f0, f1, f2, peekL, h3, ref_of nil l, eq_self, decide_true]; exact hQ)
      · exact good_Of false [(nil, l)] (by simp) (by simpa using hl)
      · simp [-List.map_take, -List.map_drop, noPtrL, noPtr, noPtrL_bsl, noPtrL_map, sub]
      · rfl
      · exact hK
    iterate 1 (apply adraw_step rfl; · (intro K hK; simp (disch := first | omega | decide) only [go_sem, f0, f1, f2, h3, ref_of nil l, eq_self, decide_true]; exact hK))
    apply adraw_step rfl
    · intro K hK
      simp (disch := first | omega | decide) only [go_sem, f0, f1, f2, act_call, List.map, h3, ref_of nil l, eq_self, decide_true]
      apply mwp_call_s rfl rfl rfl
      · intro Q hQ
        simp (disch := first | omega | decide) only [go_sem, f0, f1, f2, peekL, reifyL_nil, reifyL_cons, reify_v, h3, ref_of nil l, eq_self, decide_true]
        first | exact hQ | ((first | rw [peek_own (by simp (disch := first | omega | decide) only [go_sem, f0, f1, f2, peekL, h3, ref_of nil l, eq_self, decide_true]; rfl)] | rw [mwp_reify_own (by simp (disch := first | omega | decide) only [go_sem, f0, f1, f2, peekL, h3, ref_of nil l, eq_self, decide_true]; rfl)]); exact hQ) | ((first | rw [peek_own (by simp (disch := first | omega | decide) only [go_sem, f0, f1, f2, peekL, h3, ref_of nil l, eq_self, decide_true]; rfl)] | rw [mwp_reify_own (by simp (disch := first | omega | decide) only [go_sem, f0, f1, f2, peekL, h3, ref_of nil l, eq_self, decide_true]; rfl)]); simp (disch := first | omega | decide) only [go_sem, f0, f1, f2, peekL, h3, ref_of nil l, eq_self, decide_true]; (first | rw [peek_own (by simp (disch := first | omega | decide) only [go_sem, f0, f1, f2, peekL, h3, ref_of nil l, eq_self, decide_true]; rfl)] | rw [mwp_reify_own (by simp (disch := first | omega | decide) only [go_sem, f0, f1, f2, peekL, h3, ref_of nil l, eq_self, decide_true]; rfl)]); exact hQ) | ((first | rw [peek_own (by simp (disch := first | omega | decide) only [go_sem, f0, f1, f2, peekL, h3, ref_of nil l, eq_self, decide_true]; rfl)] | rw [mwp_reify_own (by simp (disch := first | omega | decide) only [go_sem, f0, f1, f2, peekL, h3, ref_of nil l, eq_self, decide_true]; rfl)]); simp (disch := first | omega | decide) only [go_sem, f0, f1, f2, peekL, h3, ref_of nil l, eq_self, decide_true]; exact hQ)
      · exact good_refOf _ _ (by omega)
      · simp [-List.map_take, -List.map_drop, noPtrL, noPtr, noPtrL_bsl, noPtrL_map, sub]
      · rfl
      · exact hK
    iterate 12 (apply adraw_step rfl; · (intro K hK; simp (disch := first | omega | decide) only [go_sem, f0, f1, f2, act_slice_s u22 ti5, h3, ref_of nil l, eq_self, decide_true]; exact hK))
    apply adraw_step rfl
    · intro K hK
      rw [act_bs el105 ti22]
      first | (simp [-List.map_take, -List.map_drop, go_sem, elems_v, cellishAV, Value.oneCell', isAggAV, partsOf, TI.z, TI.mk1, f0, f1, f2]; exact hK) | (simp (disch := first | omega | decide) only [go_sem, f0, f1, f2, List.map, elems_cons, h3, ref_of nil l, eq_self, decide_true]; rw [if_pos (by decide)]; simp (disch := first | omega | decide) only [go_sem, f0, f1, f2, List.map, elems_cons, h3, ref_of nil l, eq_self, decide_true]; rw [mwp_reify_own (by simp (disch := first | omega | decide) only [go_sem, f0, f1, f2, List.map, elems_cons, h3, ref_of nil l, eq_self, decide_true]; rfl)]; (first | rw [sub_full (by simp)] | skip); simp [-List.map_take, -List.map_drop, go_sem, cellishAV, Value.oneCell', isAggAV, partsOf, TI.z, TI.mk1, mwp_if, sub]; exact hK)
    apply adraw_step rfl
    · intro K hK
      simp (disch := first | omega | decide) only [go_sem, f0, f1, f2, act_call, List.map, h3, ref_of nil l, eq_self, decide_true]
      apply mwp_call_s rfl rfl rfl
      · intro Q hQ
        simp (disch := first | omega | decide) only [go_sem, f0, f1, f2, peekL, reifyL_nil, reifyL_cons, reify_v, h3, ref_of nil l, eq_self, decide_true]
        first | exact hQ | ((first | rw [peek_own (by simp (disch := first | omega | decide) only [go_sem, f0, f1, f2, peekL, h3, ref_of nil l, eq_self, decide_true]; rfl)] | rw [mwp_reify_own (by simp (disch := first | omega | decide) only [go_sem, f0, f1, f2, peekL, h3, ref_of nil l, eq_self, decide_true]; rfl)]); exact hQ) | ((first | rw [peek_own (by simp (disch := first | omega | decide) only [go_sem, f0, f1, f2, peekL, h3, ref_of nil l, eq_self, decide_true]; rfl)] | rw [mwp_reify_own (by simp (disch := first | omega | decide) only [go_sem, f0, f1, f2, peekL, h3, ref_of nil l, eq_self, decide_true]; rfl)]); simp (disch := first | omega | decide) only [go_sem, f0, f1, f2, peekL, h3, ref_of nil l, eq_self, decide_true]; (first | rw [peek_own (by simp (disch := first | omega | decide) only [go_sem, f0, f1, f2, peekL, h3, ref_of nil l, eq_self, decide_true]; rfl)] | rw [mwp_reify_own (by simp (disch := first | omega | decide) only [go_sem, f0, f1, f2, peekL, h3, ref_of nil l, eq_self, decide_true]; rfl)]); exact hQ) | ((first | rw [peek_own (by simp (disch := first | omega | decide) only [go_sem, f0, f1, f2, peekL, h3, ref_of nil l, eq_self, decide_true]; rfl)] | rw [mwp_reify_own (by simp (disch := first | omega | decide) only [go_sem, f0, f1, f2, peekL, h3, ref_of nil l, eq_self, decide_true]; rfl)]); simp (disch := first | omega | decide) only [go_sem, f0, f1, f2, peekL, h3, ref_of nil l, eq_self, decide_true]; exact hQ)
      · exact good_Of false [(nil, l.take (x % ((l.length:Int)+1)).toNat), (nil, (l.take (x % ((l.length:Int)+1) + y % ((l.length:Int)+1 - x % ((l.length:Int)+1))).toNat).drop (x % ((l.length:Int)+1)).toNat), (nil, l.drop (x % ((l.length:Int)+1) + y % ((l.length:Int)+1 - x % ((l.length:Int)+1))).toNat)] (by simp) (by simp; omega)
      · simp [-List.map_take, -List.map_drop, noPtrL, noPtr, noPtrL_bsl, noPtrL_map, sub]
      · rfl
      · exact hK
    iterate 1 (apply adraw_step rfl; · (intro K hK; simp (disch := first | omega | decide) only [go_sem, f0, f1, f2, h3, ref_of nil l, eq_self, decide_true]; exact hK))
    apply adraw_step rfl
    · intro K hK
      simp (disch := first | omega | decide) only [go_sem, f0, f1, f2, act_call, List.map, h3, ref_of nil l, eq_self, decide_true]
      apply mwp_call_s rfl rfl rfl
      · intro Q hQ
        simp (disch := first | omega | decide) only [go_sem, f0, f1, f2, peekL, reifyL_nil, reifyL_cons, reify_v, h3, ref_of nil l, eq_self, decide_true]
        first | exact hQ | ((first | rw [peek_own (by simp (disch := first | omega | decide) only [go_sem, f0, f1, f2, peekL, h3, ref_of nil l, eq_self, decide_true]; rfl)] | rw [mwp_reify_own (by simp (disch := first | omega | decide) only [go_sem, f0, f1, f2, peekL, h3, ref_of nil l, eq_self, decide_true]; rfl)]); exact hQ) | ((first | rw [peek_own (by simp (disch := first | omega | decide) only [go_sem, f0, f1, f2, peekL, h3, ref_of nil l, eq_self, decide_true]; rfl)] | rw [mwp_reify_own (by simp (disch := first | omega | decide) only [go_sem, f0, f1, f2, peekL, h3, ref_of nil l, eq_self, decide_true]; rfl)]); simp (disch := first | omega | decide) only [go_sem, f0, f1, f2, peekL, h3, ref_of nil l, eq_self, decide_true]; (first | rw [peek_own (by simp (disch := first | omega | decide) only [go_sem, f0, f1, f2, peekL, h3, ref_of nil l, eq_self, decide_true]; rfl)] | rw [mwp_reify_own (by simp (disch := first | omega | decide) only [go_sem, f0, f1, f2, peekL, h3, ref_of nil l, eq_self, decide_true]; rfl)]); exact hQ) | ((first | rw [peek_own (by simp (disch := first | omega | decide) only [go_sem, f0, f1, f2, peekL, h3, ref_of nil l, eq_self, decide_true]; rfl)] | rw [mwp_reify_own (by simp (disch := first | omega | decide) only [go_sem, f0, f1, f2, peekL, h3, ref_of nil l, eq_self, decide_true]; rfl)]); simp (disch := first | omega | decide) only [go_sem, f0, f1, f2, peekL, h3, ref_of nil l, eq_self, decide_true]; exact hQ)
      · exact good_refOf _ _ (by omega)
      · simp [-List.map_take, -List.map_drop, noPtrL, noPtr, noPtrL_bsl, noPtrL_map, sub]
      · rfl
      · exact hK
    iterate 3 (apply adraw_step rfl; · (intro K hK; simp (disch := first | omega | decide) only [go_sem, f0, f1, f2, h3, ref_of nil l, eq_self, decide_true]; exact hK))
    apply adraw_step rfl
    · intro K hK
      simp (disch := first | omega | decide) only [go_sem, f0, f1, f2, act_call, List.map, h3, ref_of nil l, eq_self, decide_true]
      apply mwp_call_s rfl rfl rfl
      · intro Q hQ
        simp (disch := first | omega | decide) only [go_sem, f0, f1, f2, peekL, reifyL_nil, reifyL_cons, reify_v, h3, ref_of nil l, eq_self, decide_true]
        first | exact hQ | ((first | rw [peek_own (by simp (disch := first | omega | decide) only [go_sem, f0, f1, f2, peekL, h3, ref_of nil l, eq_self, decide_true]; rfl)] | rw [mwp_reify_own (by simp (disch := first | omega | decide) only [go_sem, f0, f1, f2, peekL, h3, ref_of nil l, eq_self, decide_true]; rfl)]); exact hQ) | ((first | rw [peek_own (by simp (disch := first | omega | decide) only [go_sem, f0, f1, f2, peekL, h3, ref_of nil l, eq_self, decide_true]; rfl)] | rw [mwp_reify_own (by simp (disch := first | omega | decide) only [go_sem, f0, f1, f2, peekL, h3, ref_of nil l, eq_self, decide_true]; rfl)]); simp (disch := first | omega | decide) only [go_sem, f0, f1, f2, peekL, h3, ref_of nil l, eq_self, decide_true]; (first | rw [peek_own (by simp (disch := first | omega | decide) only [go_sem, f0, f1, f2, peekL, h3, ref_of nil l, eq_self, decide_true]; rfl)] | rw [mwp_reify_own (by simp (disch := first | omega | decide) only [go_sem, f0, f1, f2, peekL, h3, ref_of nil l, eq_self, decide_true]; rfl)]); exact hQ) | ((first | rw [peek_own (by simp (disch := first | omega | decide) only [go_sem, f0, f1, f2, peekL, h3, ref_of nil l, eq_self, decide_true]; rfl)] | rw [mwp_reify_own (by simp (disch := first | omega | decide) only [go_sem, f0, f1, f2, peekL, h3, ref_of nil l, eq_self, decide_true]; rfl)]); simp (disch := first | omega | decide) only [go_sem, f0, f1, f2, peekL, h3, ref_of nil l, eq_self, decide_true]; exact hQ)
      · exact good_awake
      · simp [-List.map_take, -List.map_drop, noPtrL, noPtr, noPtrL_bsl, noPtrL_map, sub]
      · rfl
      · exact hK
    iterate 2 (apply adraw_step rfl; · (intro K hK; simp (disch := first | omega | decide) only [go_sem, f0, f1, f2, h3, ref_of nil l, eq_self, decide_true]; exact hK))
    refine adraw_nil (by kernel_rfl) ?_
    refine AW.ret ?_
    refine ⟨.inr rfl, ?_⟩
    refine leaves_tmp1 6 rfl ?_ (by first | rfl | exact hG)
    simp (disch := first | omega | decide) only [go_sem, f0, f1, f2, h3, ref_of nil l, eq_self, decide_true]

set_option maxHeartbeats 4000000 in
set_option maxRecDepth 100000 in
theorem good_CheckThree (na nb nc : Bool) (la lb lc : List (BitVec 8)) (ha : la.length ≤ 9223372036854775807) (hb : lb.length ≤ 9223372036854775807) (hc : lc.length ≤ 9223372036854775807) : Good Try.prog 4 [(.sl 1 na (bsl la), false), (.sl 1 nb (bsl lb), false), (.sl 1 nc (bsl lc), false)] [] [(.b true, false)] [] := by
  refine good_of_body2 87 Try.func4 rfl rfl rfl (by simp) ?_
  intro s m ha hr hv hG
  have f0 : s 0 = .v (.sl 1 na (bsl la)) := ha 0 _ rfl
  have f1 : s 1 = .v (.sl 1 nb (bsl lb)) := ha 1 _ rfl
  have f2 : s 2 = .v (.sl 1 nc (bsl lc)) := ha 2 _ rfl
  clear ha
  obtain ⟨lb2, eb⟩ : ∃ l, lb.take la.length = l := ⟨_, rfl⟩
  obtain ⟨lc2, ec⟩ : ∃ l, lc.take la.length = l := ⟨_, rfl⟩
  have hb2 : lb2.length = min la.length lb.length := by rw [← eb]; simp
  have hc2 : lc2.length = min la.length lc.length := by rw [← ec]; simp
  have hx3 : ∀ k, (xor3 la lb2 lc2 k).length = k := fun k => by simp [xor3]
  have h3 := three na nb nc false la lb2 lc2
  refine AW.seq ?_
  refine AW.region (cfg := cfg) ?_
  iterate 1 (apply aops_step (by decide) rfl; · (intro K hK; simp (disch := first | omega | decide) only [go_sem, f0, f1, f2, eb, ec, h3, eq_self, decide_true]; exact hK _))
  refine aops_nil ?_
  refine AW.seq ?_
  refine AW.seq ?_
  refine AW.region (cfg := cfg) ?_
  iterate 4 (apply aops_step (by decide) rfl; · (intro K hK; simp (disch := first | omega | decide) only [go_sem, f0, f1, f2, List.map, List.length_map, aops_len u22, eb, ec, h3, eq_self, decide_true]; exact hK _))
  apply aops_merge' (by decide) (by first | exact want_of (d := 12) rfl (by simp (disch := first | omega | decide) only [go_sem, f0, f1, f2, opn_cond, eb, ec, h3, eq_self, decide_true]; rfl) | exact want_of_cond (d := 12) rfl (by simp (disch := first | omega | decide) only [go_sem, f0, f1, f2, opn_cond, eb, ec, h3, eq_self, decide_true]; rfl))
  · intro hc K hK
    have hc2 := hc
    simp only [beq_iff_eq, decide_eq_true_eq, decide_eq_false_iff_not, Bool.or_eq_true, Bool.and_eq_true, Bool.or_eq_false_iff, Bool.and_eq_false_iff] at hc2
    simp (disch := first | omega | decide) only [go_sem, f0, f1, f2, opn_cond, hc, if_true, eb, ec, h3, eq_self, decide_true]
    exact hK _
  apply aops_merge' (by decide) (by first | exact want_of (d := 12) rfl (by simp (disch := first | omega | decide) only [go_sem, f0, f1, f2, opn_cond, eb, ec, h3, eq_self, decide_true]; rfl) | exact want_of_cond (d := 12) rfl (by simp (disch := first | omega | decide) only [go_sem, f0, f1, f2, opn_cond, eb, ec, h3, eq_self, decide_true]; rfl))
  · intro hc K hK
    have hc2 := hc
    simp only [beq_iff_eq, decide_eq_true_eq, decide_eq_false_iff_not, Bool.or_eq_true, Bool.and_eq_true, Bool.or_eq_false_iff, Bool.and_eq_false_iff] at hc2
    simp (disch := first | omega | decide) only [go_sem, f0, f1, f2, opn_cond, hc, if_true, List.map, List.length_map, aops_len u22, eb, ec, h3, eq_self, decide_true]
    exact hK _
  apply aops_merge' (by decide) (by first | exact want_of (d := 12) rfl (by simp (disch := first | omega | decide) only [go_sem, f0, f1, f2, opn_cond, eb, ec, h3, eq_self, decide_true]; rfl) | exact want_of_cond (d := 12) rfl (by simp (disch := first | omega | decide) only [go_sem, f0, f1, f2, opn_cond, eb, ec, h3, eq_self, decide_true]; rfl))
  · intro hc K hK
    have hc2 := hc
    simp only [beq_iff_eq, decide_eq_true_eq, decide_eq_false_iff_not, Bool.or_eq_true, Bool.and_eq_true, Bool.or_eq_false_iff, Bool.and_eq_false_iff] at hc2
    simp (disch := first | omega | decide) only [go_sem, f0, f1, f2, opn_cond, hc, if_true, eb, ec, h3, eq_self, decide_true]
    exact hK _
  apply aops_merge' (by decide) (by first | exact want_of (d := 12) rfl (by simp (disch := first | omega | decide) only [go_sem, f0, f1, f2, opn_cond, eb, ec, h3, eq_self, decide_true]; rfl) | exact want_of_cond (d := 12) rfl (by simp (disch := first | omega | decide) only [go_sem, f0, f1, f2, opn_cond, eb, ec, h3, eq_self, decide_true]; rfl))
  · intro hc K hK
    have hc2 := hc
    simp only [beq_iff_eq, decide_eq_true_eq, decide_eq_false_iff_not, Bool.or_eq_true, Bool.and_eq_true, Bool.or_eq_false_iff, Bool.and_eq_false_iff] at hc2
    simp (disch := first | omega | decide) only [go_sem, f0, f1, f2, opn_cond, hc, if_true, List.map, List.length_map, aops_len u22, eb, ec, h3, eq_self, decide_true]
    exact hK _
  apply aops_merge' (by decide) (by first | exact want_of (d := 12) rfl (by simp (disch := first | omega | decide) only [go_sem, f0, f1, f2, opn_cond, eb, ec, h3, eq_self, decide_true]; rfl) | exact want_of_cond (d := 12) rfl (by simp (disch := first | omega | decide) only [go_sem, f0, f1, f2, opn_cond, eb, ec, h3, eq_self, decide_true]; rfl))
  · intro hc K hK
    have hc2 := hc
    simp only [beq_iff_eq, decide_eq_true_eq, decide_eq_false_iff_not, Bool.or_eq_true, Bool.and_eq_true, Bool.or_eq_false_iff, Bool.and_eq_false_iff] at hc2
    simp (disch := first | omega | decide) only [go_sem, f0, f1, f2, opn_cond, hc, if_true, eb, ec, h3, eq_self, decide_true]
    exact hK _
  iterate 2 (apply aops_step (by decide) rfl; · (intro K hK; simp (disch := first | omega | decide) only [go_sem, f0, f1, f2, eb, ec, h3, eq_self, decide_true]; exact hK _))
  apply aops_merge' (by decide) (by first | exact want_of (d := 19) rfl (by simp (disch := first | omega | decide) only [go_sem, f0, f1, f2, opn_cond, eb, ec, h3, eq_self, decide_true]; rfl) | exact want_of_cond (d := 19) rfl (by simp (disch := first | omega | decide) only [go_sem, f0, f1, f2, opn_cond, eb, ec, h3, eq_self, decide_true]; rfl))
  · intro hc K hK
    have hc2 := hc
    simp only [beq_iff_eq, decide_eq_true_eq, decide_eq_false_iff_not, Bool.or_eq_true, Bool.and_eq_true, Bool.or_eq_false_iff, Bool.and_eq_false_iff] at hc2
    simp (disch := first | omega | decide) only [go_sem, f0, f1, f2, opn_cond, hc, if_true, eb, ec, h3, eq_self, decide_true]
    exact hK _
  apply aops_merge' (by decide) (by first | exact want_of (d := 19) rfl (by simp (disch := first | omega | decide) only [go_sem, f0, f1, f2, opn_cond, eb, ec, h3, eq_self, decide_true]; rfl) | exact want_of_cond (d := 19) rfl (by simp (disch := first | omega | decide) only [go_sem, f0, f1, f2, opn_cond, eb, ec, h3, eq_self, decide_true]; rfl))
  · intro hc K hK
    have hc2 := hc
    simp only [beq_iff_eq, decide_eq_true_eq, decide_eq_false_iff_not, Bool.or_eq_true, Bool.and_eq_true, Bool.or_eq_false_iff, Bool.and_eq_false_iff] at hc2
    simp (disch := first | omega | decide) only [go_sem, f0, f1, f2, opn_cond, hc, if_true, List.map, List.length_map, aops_len u22, eb, ec, h3, eq_self, decide_true]
    exact hK _
  apply aops_merge' (by decide) (by first | exact want_of (d := 19) rfl (by simp (disch := first | omega | decide) only [go_sem, f0, f1, f2, opn_cond, eb, ec, h3, eq_self, decide_true]; rfl) | exact want_of_cond (d := 19) rfl (by simp (disch := first | omega | decide) only [go_sem, f0, f1, f2, opn_cond, eb, ec, h3, eq_self, decide_true]; rfl))
  · intro hc K hK
    have hc2 := hc
    simp only [beq_iff_eq, decide_eq_true_eq, decide_eq_false_iff_not, Bool.or_eq_true, Bool.and_eq_true, Bool.or_eq_false_iff, Bool.and_eq_false_iff] at hc2
    simp (disch := first | omega | decide) only [go_sem, f0, f1, f2, opn_cond, hc, if_true, eb, ec, h3, eq_self, decide_true]
    exact hK _
  apply aops_merge' (by decide) (by first | exact want_of (d := 19) rfl (by simp (disch := first | omega | decide) only [go_sem, f0, f1, f2, opn_cond, eb, ec, h3, eq_self, decide_true]; rfl) | exact want_of_cond (d := 19) rfl (by simp (disch := first | omega | decide) only [go_sem, f0, f1, f2, opn_cond, eb, ec, h3, eq_self, decide_true]; rfl))
  · intro hc K hK
    have hc2 := hc
    simp only [beq_iff_eq, decide_eq_true_eq, decide_eq_false_iff_not, Bool.or_eq_true, Bool.and_eq_true, Bool.or_eq_false_iff, Bool.and_eq_false_iff] at hc2
    simp (disch := first | omega | decide) only [go_sem, f0, f1, f2, opn_cond, hc, if_true, List.map, List.length_map, aops_len u22, eb, ec, h3, eq_self, decide_true]
    exact hK _
  apply aops_merge' (by decide) (by first | exact want_of (d := 19) rfl (by simp (disch := first | omega | decide) only [go_sem, f0, f1, f2, opn_cond, eb, ec, h3, eq_self, decide_true]; rfl) | exact want_of_cond (d := 19) rfl (by simp (disch := first | omega | decide) only [go_sem, f0, f1, f2, opn_cond, eb, ec, h3, eq_self, decide_true]; rfl))
  · intro hc K hK
    have hc2 := hc
    simp only [beq_iff_eq, decide_eq_true_eq, decide_eq_false_iff_not, Bool.or_eq_true, Bool.and_eq_true, Bool.or_eq_false_iff, Bool.and_eq_false_iff] at hc2
    simp (disch := first | omega | decide) only [go_sem, f0, f1, f2, opn_cond, hc, if_true, eb, ec, h3, eq_self, decide_true]
    exact hK _
  iterate 2 (apply aops_step (by decide) rfl; · (intro K hK; simp (disch := first | omega | decide) only [go_sem, f0, f1, f2, eb, ec, h3, eq_self, decide_true]; exact hK _))
  apply aops_merge' (by decide) (by first | exact want_of (d := 26) rfl (by simp (disch := first | omega | decide) only [go_sem, f0, f1, f2, opn_cond, eb, ec, h3, eq_self, decide_true]; rfl) | exact want_of_cond (d := 26) rfl (by simp (disch := first | omega | decide) only [go_sem, f0, f1, f2, opn_cond, eb, ec, h3, eq_self, decide_true]; rfl))
  · intro hc K hK
    have hc2 := hc
    simp only [beq_iff_eq, decide_eq_true_eq, decide_eq_false_iff_not, Bool.or_eq_true, Bool.and_eq_true, Bool.or_eq_false_iff, Bool.and_eq_false_iff] at hc2
    simp (disch := first | omega | decide) only [go_sem, f0, f1, f2, opn_cond, hc, if_true, eb, ec, h3, eq_self, decide_true]
    exact hK _
  apply aops_merge' (by decide) (by first | exact want_of (d := 26) rfl (by simp (disch := first | omega | decide) only [go_sem, f0, f1, f2, opn_cond, eb, ec, h3, eq_self, decide_true]; rfl) | exact want_of_cond (d := 26) rfl (by simp (disch := first | omega | decide) only [go_sem, f0, f1, f2, opn_cond, eb, ec, h3, eq_self, decide_true]; rfl))
  · intro hc K hK
    have hc2 := hc
    simp only [beq_iff_eq, decide_eq_true_eq, decide_eq_false_iff_not, Bool.or_eq_true, Bool.and_eq_true, Bool.or_eq_false_iff, Bool.and_eq_false_iff] at hc2
    simp (disch := first | omega | decide) only [go_sem, f0, f1, f2, opn_cond, hc, if_true, List.map, List.length_map, aops_len u22, eb, ec, h3, eq_self, decide_true]
    exact hK _
  apply aops_merge' (by decide) (by first | exact want_of (d := 26) rfl (by simp (disch := first | omega | decide) only [go_sem, f0, f1, f2, opn_cond, eb, ec, h3, eq_self, decide_true]; rfl) | exact want_of_cond (d := 26) rfl (by simp (disch := first | omega | decide) only [go_sem, f0, f1, f2, opn_cond, eb, ec, h3, eq_self, decide_true]; rfl))
  · intro hc K hK
    have hc2 := hc
    simp only [beq_iff_eq, decide_eq_true_eq, decide_eq_false_iff_not, Bool.or_eq_true, Bool.and_eq_true, Bool.or_eq_false_iff, Bool.and_eq_false_iff] at hc2
    simp (disch := first | omega | decide) only [go_sem, f0, f1, f2, opn_cond, hc, if_true, eb, ec, h3, eq_self, decide_true]
    exact hK _
  iterate 2 (apply aops_step (by decide) rfl; · (intro K hK; simp (disch := first | omega | decide) only [go_sem, f0, f1, f2, eb, ec, h3, eq_self, decide_true]; exact hK _))
  apply aops_merge' (by decide) (by first | exact want_of (d := 31) rfl (by simp (disch := first | omega | decide) only [go_sem, f0, f1, f2, opn_cond, eb, ec, h3, eq_self, decide_true]; rfl) | exact want_of_cond (d := 31) rfl (by simp (disch := first | omega | decide) only [go_sem, f0, f1, f2, opn_cond, eb, ec, h3, eq_self, decide_true]; rfl))
  · intro hc K hK
    have hc2 := hc
    simp only [beq_iff_eq, decide_eq_true_eq, decide_eq_false_iff_not, Bool.or_eq_true, Bool.and_eq_true, Bool.or_eq_false_iff, Bool.and_eq_false_iff] at hc2
    simp (disch := first | omega | decide) only [go_sem, f0, f1, f2, opn_cond, hc, if_true, eb, ec, h3, eq_self, decide_true]
    exact hK _
  apply aops_merge' (by decide) (by first | exact want_of (d := 31) rfl (by simp (disch := first | omega | decide) only [go_sem, f0, f1, f2, opn_cond, eb, ec, h3, eq_self, decide_true]; rfl) | exact want_of_cond (d := 31) rfl (by simp (disch := first | omega | decide) only [go_sem, f0, f1, f2, opn_cond, eb, ec, h3, eq_self, decide_true]; rfl))
  · intro hc K hK
    have hc2 := hc
    simp only [beq_iff_eq, decide_eq_true_eq, decide_eq_false_iff_not, Bool.or_eq_true, Bool.and_eq_true, Bool.or_eq_false_iff, Bool.and_eq_false_iff] at hc2
    simp (disch := first | omega | decide) only [go_sem, f0, f1, f2, opn_cond, hc, if_true, List.map, List.length_map, aops_len u22, eb, ec, h3, eq_self, decide_true]
    exact hK _
  apply aops_merge' (by decide) (by first | exact want_of (d := 31) rfl (by simp (disch := first | omega | decide) only [go_sem, f0, f1, f2, opn_cond, eb, ec, h3, eq_self, decide_true]; rfl) | exact want_of_cond (d := 31) rfl (by simp (disch := first | omega | decide) only [go_sem, f0, f1, f2, opn_cond, eb, ec, h3, eq_self, decide_true]; rfl))
  · intro hc K hK
    have hc2 := hc
    simp only [beq_iff_eq, decide_eq_true_eq, decide_eq_false_iff_not, Bool.or_eq_true, Bool.and_eq_true, Bool.or_eq_false_iff, Bool.and_eq_false_iff] at hc2
    simp (disch := first | omega | decide) only [go_sem, f0, f1, f2, opn_cond, hc, if_true, eb, ec, h3, eq_self, decide_true]
    exact hK _
  iterate 1 (apply aops_step (by decide) rfl; · (intro K hK; simp (disch := first | omega | decide) only [go_sem, f0, f1, f2, eb, ec, h3, eq_self, decide_true]; exact hK _))
  refine aops_nil ?_
  apply AW.cond
  · simp (disch := first | omega | decide) only [go_sem, f0, f1, f2, eb, ec, h3, eq_self, decide_true]; rfl
  case ht =>
    intro hb
    try simp only [Bool.or_eq_true, Bool.and_eq_true, Bool.or_eq_false_iff, Bool.and_eq_false_iff, decide_eq_true_eq, decide_eq_false_iff_not] at hb
    have hbt35 := hb
    refine AW.seq ?_
    refine AW.region (cfg := cfg) ?_
    apply aops_step (by decide) rfl
    · intro K hK
      simp (disch := first | omega | decide) only [go_sem, f0, f1, f2, act_call, List.map, eb, ec, h3, eq_self, decide_true]
      apply mwp_call_s rfl rfl rfl
      · intro Q hQ
        simp (disch := first | omega | decide) only [go_sem, f0, f1, f2, peekL, reifyL_nil, reifyL_cons, reify_v, eb, ec, h3, eq_self, decide_true]
        first | exact hQ | ((first | rw [peek_own (by simp (disch := first | omega | decide) only [go_sem, f0, f1, f2, peekL, eb, ec, h3, eq_self, decide_true]; rfl)] | rw [mwp_reify_own (by simp (disch := first | omega | decide) only [go_sem, f0, f1, f2, peekL, eb, ec, h3, eq_self, decide_true]; rfl)]); exact hQ) | ((first | rw [peek_own (by simp (disch := first | omega | decide) only [go_sem, f0, f1, f2, peekL, eb, ec, h3, eq_self, decide_true]; rfl)] | rw [mwp_reify_own (by simp (disch := first | omega | decide) only [go_sem, f0, f1, f2, peekL, eb, ec, h3, eq_self, decide_true]; rfl)]); simp (disch := first | omega | decide) only [go_sem, f0, f1, f2, peekL, eb, ec, h3, eq_self, decide_true]; (first | rw [peek_own (by simp (disch := first | omega | decide) only [go_sem, f0, f1, f2, peekL, eb, ec, h3, eq_self, decide_true]; rfl)] | rw [mwp_reify_own (by simp (disch := first | omega | decide) only [go_sem, f0, f1, f2, peekL, eb, ec, h3, eq_self, decide_true]; rfl)]); exact hQ) | ((first | rw [peek_own (by simp (disch := first | omega | decide) only [go_sem, f0, f1, f2, peekL, eb, ec, h3, eq_self, decide_true]; rfl)] | rw [mwp_reify_own (by simp (disch := first | omega | decide) only [go_sem, f0, f1, f2, peekL, eb, ec, h3, eq_self, decide_true]; rfl)]); simp (disch := first | omega | decide) only [go_sem, f0, f1, f2, peekL, eb, ec, h3, eq_self, decide_true]; exact hQ)
      · exact good_awake
      · simp [-List.map_take, -List.map_drop, noPtrL, noPtr, noPtrL_bsl, noPtrL_map, sub]
      · rfl
      · exact hK _
    iterate 1 (apply aops_step (by decide) rfl; · (intro K hK; simp (disch := first | omega | decide) only [go_sem, f0, f1, f2, eb, ec, h3, eq_self, decide_true]; exact hK _))
    refine aops_nil ?_
    refine AW.ret ?_
    refine ⟨.inr rfl, ?_⟩
    refine leaves_tmp1 6 rfl ?_ (by first | rfl | exact hG)
    simp (disch := first | omega | decide) only [go_sem, f0, f1, f2, eb, ec, h3, eq_self, decide_true]
  case hf =>
    intro hb
    try simp only [Bool.or_eq_true, Bool.and_eq_true, Bool.or_eq_false_iff, Bool.and_eq_false_iff, decide_eq_true_eq, decide_eq_false_iff_not] at hb
    have hbt35 := hb
    refine AW.skip ?_
    refine AW.seq ?_
    refine AW.draw (cfg := cfg) (by kernel_rfl) (by kernel_rfl) (by kernel_rfl) ?_
    iterate 10 (apply adraw_step rfl; · (intro K hK; simp (disch := first | omega | decide) only [go_sem, f0, f1, f2, List.map, List.length_map, aops_len u22, act_slice_s u22 ti5, eb, ec, h3, eq_self, decide_true]; exact hK))
    refine adraw_nil (by kernel_rfl) ?_
    refine AW.seq ?_
    refine AW.region (cfg := cfg) ?_
    apply aops_step (by decide) rfl
    · intro K hK
      rw [act_bs el22 ti5]
      first | (simp [-List.map_take, -List.map_drop, go_sem, elems_v, cellishAV, Value.oneCell', isAggAV, partsOf, TI.z, TI.mk1, f0, f1, f2]; exact hK _) | (simp (disch := first | omega | decide) only [go_sem, f0, f1, f2, List.map, elems_cons, eb, ec, h3, eq_self, decide_true]; rw [if_pos (by decide)]; simp (disch := first | omega | decide) only [go_sem, f0, f1, f2, List.map, elems_cons, eb, ec, h3, eq_self, decide_true]; rw [mwp_reify_own (by simp (disch := first | omega | decide) only [go_sem, f0, f1, f2, List.map, elems_cons, eb, ec, h3, eq_self, decide_true]; rfl)]; (first | rw [sub_full (by simp [xor3])] | skip); simp [-List.map_take, -List.map_drop, go_sem, cellishAV, Value.oneCell', isAggAV, partsOf, TI.z, TI.mk1, mwp_if, sub]; exact hK _)
    apply aops_step (by decide) rfl
    · intro K hK
      simp (disch := first | omega | decide) only [go_sem, f0, f1, f2, eb, ec, h3, eq_self, decide_true]
      rw [asg_tmp (by simp (disch := first | omega | decide) only [go_sem, f0, f1, f2, eb, ec, h3, eq_self, decide_true]; rfl)]
      exact hK _
    refine aops_nil ?_
    refine AW.seq ?_
    refine AW.seq ?_
    refine AW.region (cfg := cfg) ?_
    iterate 1 (apply aops_step (by decide) rfl; · (intro K hK; simp (disch := first | omega | decide) only [go_sem, f0, f1, f2, eb, ec, h3, eq_self, decide_true]; exact hK _))
    refine aops_nil ?_
    refine AW.block ?_
    refine AW.forN (fun k σ => ∃ s m, σ = ⟨87, s, m⟩ ∧ s 0 = .v (.sl 1 na (bsl la)) ∧ s 1 = .v (.sl 1 nb (bsl lb2)) ∧ s 2 = .v (.sl 1 nc (bsl lc2)) ∧ s 8 = .v (i64 k) ∧ s 7 = .own (.var 7) (m.objs (.var 7)).1 0 (k) ∧ (m.objs (.var 7)).2 = .arr false 1 (bsl (xor3 la lb2 lc2 k)) ∧ m.G = []) (la.length) ?_ ?_ ?_
    · refine ⟨_, _, rfl, ?_, ?_, ?_, ?_, ?_, ?_, hG⟩ <;> try simp (disch := first | omega | decide) only [go_sem, f0, f1, f2, eb, ec, h3, eq_self, decide_true]
      all_goals first | rfl | simp [xor3]
    · clear f0 f1 f2 hG
      rintro k σ hk ⟨s, m, rfl, f0, f1, f2, f8, f7, o7, hG⟩
      obtain ⟨g7, o7⟩ : ∃ g, m.objs (.var 7) = (g, .arr false 1 (bsl (xor3 la lb2 lc2 k))) := ⟨_, Prod.ext rfl o7⟩
      rw [o7] at f7
      refine AW.seq ?_
      refine AW.seq ?_
      refine AW.region (cfg := cfg) ?_
      iterate 4 (apply aops_step (by decide) rfl; · (intro K hK; simp (disch := first | omega | decide) only [go_sem, f0, f1, f2, f8, f7, o7, List.map, List.length_map, aops_len u22, eb, ec, h3, eq_self, decide_true]; exact hK _))
      refine aops_nil ?_
      apply AW.cond
      · simp (disch := first | omega | decide) only [go_sem, f0, f1, f2, f8, f7, o7, eb, ec, h3, eq_self, decide_true]; rfl
      case hf => intro hb; first | (simp at hb; done) | (simp at hb; omega)
      case ht =>
      intro hb
      have hbt49 := hb
      refine AW.skip ?_
      refine AW.seq ?_
      refine AW.block ?_
      refine AW.draw (cfg := cfg) (by kernel_rfl) (by kernel_rfl) (by kernel_rfl) ?_
      iterate 15 (apply adraw_step rfl; · (intro K hK; simp (disch := first | omega | decide) only [go_sem, f0, f1, f2, f8, f7, o7, act_indexAddr_s u22 ti5, act_load_t ti5, eb, ec, h3, eq_self, decide_true]; exact hK))
      apply adraw_step rfl
      · intro K hK
        rw [act_bs el22 ti5]
        first | (simp [-List.map_take, -List.map_drop, go_sem, elems_v, cellishAV, Value.oneCell', isAggAV, partsOf, TI.z, TI.mk1, f0, f1, f2, f8, f7, o7]; exact hK) | (simp (disch := first | omega | decide) only [go_sem, f0, f1, f2, f8, f7, o7, List.map, elems_cons, eb, ec, h3, eq_self, decide_true]; rw [if_pos (by decide)]; simp (disch := first | omega | decide) only [go_sem, f0, f1, f2, f8, f7, o7, List.map, elems_cons, eb, ec, h3, eq_self, decide_true]; rw [mwp_reify_own (by simp (disch := first | omega | decide) only [go_sem, f0, f1, f2, f8, f7, o7, List.map, elems_cons, eb, ec, h3, eq_self, decide_true]; rfl)]; (first | rw [sub_full (by simp [xor3])] | skip); simp [-List.map_take, -List.map_drop, go_sem, cellishAV, Value.oneCell', isAggAV, partsOf, TI.z, TI.mk1, mwp_if, sub]; exact hK)
      apply adraw_step rfl
      · intro K hK
        simp (disch := first | omega | decide) only [go_sem, f0, f1, f2, f8, f7, o7, List.map, eb, ec, h3, eq_self, decide_true]
        apply mwp_append2 el22 ti5 u22
        case hpk => intro Q hQ; first | exact hQ | (rw [peek_own (by simp (disch := first | omega | decide) only [go_sem, f0, f1, f2, f8, f7, o7, eb, ec, h3, eq_self, decide_true]; rfl)]; exact hQ)
        case hs' => rfl
        case ho => simp (disch := first | omega | decide) only [go_sem, f0, f1, f2, f8, f7, o7, eb, ec, h3, eq_self, decide_true]; rfl
        case hsz => rfl
        case hhi => simp [xor3]
        case hb => simp [sub, roomB]; omega
        case hy => simp [sub, cellsOf]
        case k => exact hK
      apply adraw_step rfl
      · intro K hK
        simp (disch := first | omega | decide) only [go_sem, f0, f1, f2, f8, f7, o7, eb, ec, h3, eq_self, decide_true]
        rw [asg_tmp (by simp (disch := first | omega | decide) only [go_sem, f0, f1, f2, f8, f7, o7, eb, ec, h3, eq_self, decide_true]; rfl)]
        exact hK
      refine adraw_nil (by kernel_rfl) ?_
      refine AW.region (cfg := cfg) ?_
      iterate 3 (apply aops_step (by decide) rfl; · (intro K hK; simp (disch := first | omega | decide) only [go_sem, f0, f1, f2, f8, f7, o7, eb, ec, h3, eq_self, decide_true]; exact hK _))
      refine aops_nil ?_
      refine ⟨_, _, rfl, ?_, ?_, ?_, ?_, ?_, ?_, hG⟩ <;> try simp (disch := first | omega | decide) only [go_sem, f0, f1, f2, f8, f7, o7, eb, ec, h3, eq_self, decide_true]
      all_goals first | rfl | skip
      all_goals (rw [xor3_succ]; simp [sub, x3, hk, List.getD_eq_getElem?_getD, (show k < lb2.length by omega), (show k < lc2.length by omega)])
    · clear f0 f1 f2 hG
      rintro σ ⟨s, m, rfl, f0, f1, f2, f8, f7, o7, hG⟩
      obtain ⟨g7, o7⟩ : ∃ g, m.objs (.var 7) = (g, .arr false 1 (bsl (xor3 la lb2 lc2 la.length))) := ⟨_, Prod.ext rfl o7⟩
      rw [o7] at f7
      refine AW.seq ?_
      refine AW.seq ?_
      refine AW.region (cfg := cfg) ?_
      iterate 4 (apply aops_step (by decide) rfl; · (intro K hK; simp (disch := first | omega | decide) only [go_sem, f0, f1, f2, f8, f7, o7, List.map, List.length_map, aops_len u22, eb, ec, h3, eq_self, decide_true]; exact hK _))
      refine aops_nil ?_
      apply AW.cond
      · simp (disch := first | omega | decide) only [go_sem, f0, f1, f2, f8, f7, o7, eb, ec, h3, eq_self, decide_true]; rfl
      case ht => intro hb; first | (simp at hb; done) | (simp at hb; omega)
      case hf =>
      intro hb
      have hbt49 := hb
      refine AW.exit ?_
      refine AW.seq ?_
      refine AW.region (cfg := cfg) ?_
      iterate 1 (apply aops_step (by decide) rfl; · (intro K hK; simp (disch := first | omega | decide) only [go_sem, f0, f1, f2, f8, f7, o7, eb, ec, h3, eq_self, decide_true]; exact hK _))
      apply aops_step (by decide) rfl
      · intro K hK
        rw [act_bs el105 ti22]
        first | (simp [-List.map_take, -List.map_drop, go_sem, elems_v, cellishAV, Value.oneCell', isAggAV, partsOf, TI.z, TI.mk1, f0, f1, f2, f8, f7, o7]; exact hK _) | (simp (disch := first | omega | decide) only [go_sem, f0, f1, f2, f8, f7, o7, List.map, elems_cons, eb, ec, h3, eq_self, decide_true]; rw [if_pos (by decide)]; simp (disch := first | omega | decide) only [go_sem, f0, f1, f2, f8, f7, o7, List.map, elems_cons, eb, ec, h3, eq_self, decide_true]; rw [mwp_reify_own (by simp (disch := first | omega | decide) only [go_sem, f0, f1, f2, f8, f7, o7, List.map, elems_cons, eb, ec, h3, eq_self, decide_true]; rfl)]; (first | rw [sub_full (by simp [xor3])] | skip); simp [-List.map_take, -List.map_drop, go_sem, cellishAV, Value.oneCell', isAggAV, partsOf, TI.z, TI.mk1, mwp_if, sub]; exact hK _)
      apply aops_step (by decide) rfl
      · intro K hK
        simp (disch := first | omega | decide) only [go_sem, f0, f1, f2, f8, f7, o7, act_call, List.map, eb, ec, h3, eq_self, decide_true]
        apply mwp_call_s rfl rfl rfl
        · intro Q hQ
          simp (disch := first | omega | decide) only [go_sem, f0, f1, f2, f8, f7, o7, peekL, reifyL_nil, reifyL_cons, reify_v, eb, ec, h3, eq_self, decide_true]
          first | exact hQ | ((first | rw [peek_own (by simp (disch := first | omega | decide) only [go_sem, f0, f1, f2, f8, f7, o7, peekL, eb, ec, h3, eq_self, decide_true]; rfl)] | rw [mwp_reify_own (by simp (disch := first | omega | decide) only [go_sem, f0, f1, f2, f8, f7, o7, peekL, eb, ec, h3, eq_self, decide_true]; rfl)]); exact hQ) | ((first | rw [peek_own (by simp (disch := first | omega | decide) only [go_sem, f0, f1, f2, f8, f7, o7, peekL, eb, ec, h3, eq_self, decide_true]; rfl)] | rw [mwp_reify_own (by simp (disch := first | omega | decide) only [go_sem, f0, f1, f2, f8, f7, o7, peekL, eb, ec, h3, eq_self, decide_true]; rfl)]); simp (disch := first | omega | decide) only [go_sem, f0, f1, f2, f8, f7, o7, peekL, eb, ec, h3, eq_self, decide_true]; (first | rw [peek_own (by simp (disch := first | omega | decide) only [go_sem, f0, f1, f2, f8, f7, o7, peekL, eb, ec, h3, eq_self, decide_true]; rfl)] | rw [mwp_reify_own (by simp (disch := first | omega | decide) only [go_sem, f0, f1, f2, f8, f7, o7, peekL, eb, ec, h3, eq_self, decide_true]; rfl)]); exact hQ) | ((first | rw [peek_own (by simp (disch := first | omega | decide) only [go_sem, f0, f1, f2, f8, f7, o7, peekL, eb, ec, h3, eq_self, decide_true]; rfl)] | rw [mwp_reify_own (by simp (disch := first | omega | decide) only [go_sem, f0, f1, f2, f8, f7, o7, peekL, eb, ec, h3, eq_self, decide_true]; rfl)]); simp (disch := first | omega | decide) only [go_sem, f0, f1, f2, f8, f7, o7, peekL, eb, ec, h3, eq_self, decide_true]; exact hQ)
        · exact good_Of false [(false, xor3 la lb2 lc2 la.length)] (by simp) (by simp [xor3]; omega)
        · simp [-List.map_take, -List.map_drop, noPtrL, noPtr, noPtrL_bsl, noPtrL_map, sub]
        · rfl
        · exact hK _
      iterate 1 (apply aops_step (by decide) rfl; · (intro K hK; simp (disch := first | omega | decide) only [go_sem, f0, f1, f2, f8, f7, o7, eb, ec, h3, eq_self, decide_true]; exact hK _))
      apply aops_step (by decide) rfl
      · intro K hK
        rw [act_bs el105 ti22]
        first | (simp [-List.map_take, -List.map_drop, go_sem, elems_v, cellishAV, Value.oneCell', isAggAV, partsOf, TI.z, TI.mk1, f0, f1, f2, f8, f7, o7]; exact hK _) | (simp (disch := first | omega | decide) only [go_sem, f0, f1, f2, f8, f7, o7, List.map, elems_cons, eb, ec, h3, eq_self, decide_true]; rw [if_pos (by decide)]; simp (disch := first | omega | decide) only [go_sem, f0, f1, f2, f8, f7, o7, List.map, elems_cons, eb, ec, h3, eq_self, decide_true]; rw [mwp_reify_own (by simp (disch := first | omega | decide) only [go_sem, f0, f1, f2, f8, f7, o7, List.map, elems_cons, eb, ec, h3, eq_self, decide_true]; rfl)]; (first | rw [sub_full (by simp [xor3])] | skip); simp [-List.map_take, -List.map_drop, go_sem, cellishAV, Value.oneCell', isAggAV, partsOf, TI.z, TI.mk1, mwp_if, sub]; exact hK _)
      apply aops_step (by decide) rfl
      · intro K hK
        simp (disch := first | omega | decide) only [go_sem, f0, f1, f2, f8, f7, o7, act_call, List.map, eb, ec, h3, eq_self, decide_true]
        apply mwp_call_s rfl rfl rfl
        · intro Q hQ
          simp (disch := first | omega | decide) only [go_sem, f0, f1, f2, f8, f7, o7, peekL, reifyL_nil, reifyL_cons, reify_v, eb, ec, h3, eq_self, decide_true]
          first | exact hQ | ((first | rw [peek_own (by simp (disch := first | omega | decide) only [go_sem, f0, f1, f2, f8, f7, o7, peekL, eb, ec, h3, eq_self, decide_true]; rfl)] | rw [mwp_reify_own (by simp (disch := first | omega | decide) only [go_sem, f0, f1, f2, f8, f7, o7, peekL, eb, ec, h3, eq_self, decide_true]; rfl)]); exact hQ) | ((first | rw [peek_own (by simp (disch := first | omega | decide) only [go_sem, f0, f1, f2, f8, f7, o7, peekL, eb, ec, h3, eq_self, decide_true]; rfl)] | rw [mwp_reify_own (by simp (disch := first | omega | decide) only [go_sem, f0, f1, f2, f8, f7, o7, peekL, eb, ec, h3, eq_self, decide_true]; rfl)]); simp (disch := first | omega | decide) only [go_sem, f0, f1, f2, f8, f7, o7, peekL, eb, ec, h3, eq_self, decide_true]; (first | rw [peek_own (by simp (disch := first | omega | decide) only [go_sem, f0, f1, f2, f8, f7, o7, peekL, eb, ec, h3, eq_self, decide_true]; rfl)] | rw [mwp_reify_own (by simp (disch := first | omega | decide) only [go_sem, f0, f1, f2, f8, f7, o7, peekL, eb, ec, h3, eq_self, decide_true]; rfl)]); exact hQ) | ((first | rw [peek_own (by simp (disch := first | omega | decide) only [go_sem, f0, f1, f2, f8, f7, o7, peekL, eb, ec, h3, eq_self, decide_true]; rfl)] | rw [mwp_reify_own (by simp (disch := first | omega | decide) only [go_sem, f0, f1, f2, f8, f7, o7, peekL, eb, ec, h3, eq_self, decide_true]; rfl)]); simp (disch := first | omega | decide) only [go_sem, f0, f1, f2, f8, f7, o7, peekL, eb, ec, h3, eq_self, decide_true]; exact hQ)
        · exact good_Of false [(na, la)] (by simp) (by simp [xor3]; omega)
        · simp [-List.map_take, -List.map_drop, noPtrL, noPtr, noPtrL_bsl, noPtrL_map, sub]
        · rfl
        · exact hK _
      iterate 1 (apply aops_step (by decide) rfl; · (intro K hK; simp (disch := first | omega | decide) only [go_sem, f0, f1, f2, f8, f7, o7, eb, ec, h3, eq_self, decide_true]; exact hK _))
      apply aops_step (by decide) rfl
      · intro K hK
        rw [act_bs el105 ti22]
        first | (simp [-List.map_take, -List.map_drop, go_sem, elems_v, cellishAV, Value.oneCell', isAggAV, partsOf, TI.z, TI.mk1, f0, f1, f2, f8, f7, o7]; exact hK _) | (simp (disch := first | omega | decide) only [go_sem, f0, f1, f2, f8, f7, o7, List.map, elems_cons, eb, ec, h3, eq_self, decide_true]; rw [if_pos (by decide)]; simp (disch := first | omega | decide) only [go_sem, f0, f1, f2, f8, f7, o7, List.map, elems_cons, eb, ec, h3, eq_self, decide_true]; rw [mwp_reify_own (by simp (disch := first | omega | decide) only [go_sem, f0, f1, f2, f8, f7, o7, List.map, elems_cons, eb, ec, h3, eq_self, decide_true]; rfl)]; (first | rw [sub_full (by simp [xor3])] | skip); simp [-List.map_take, -List.map_drop, go_sem, cellishAV, Value.oneCell', isAggAV, partsOf, TI.z, TI.mk1, mwp_if, sub]; exact hK _)
      apply aops_step (by decide) rfl
      · intro K hK
        simp (disch := first | omega | decide) only [go_sem, f0, f1, f2, f8, f7, o7, act_call, List.map, eb, ec, h3, eq_self, decide_true]
        apply mwp_call_s rfl rfl rfl
        · intro Q hQ
          simp (disch := first | omega | decide) only [go_sem, f0, f1, f2, f8, f7, o7, peekL, reifyL_nil, reifyL_cons, reify_v, eb, ec, h3, eq_self, decide_true]
          first | exact hQ | ((first | rw [peek_own (by simp (disch := first | omega | decide) only [go_sem, f0, f1, f2, f8, f7, o7, peekL, eb, ec, h3, eq_self, decide_true]; rfl)] | rw [mwp_reify_own (by simp (disch := first | omega | decide) only [go_sem, f0, f1, f2, f8, f7, o7, peekL, eb, ec, h3, eq_self, decide_true]; rfl)]); exact hQ) | ((first | rw [peek_own (by simp (disch := first | omega | decide) only [go_sem, f0, f1, f2, f8, f7, o7, peekL, eb, ec, h3, eq_self, decide_true]; rfl)] | rw [mwp_reify_own (by simp (disch := first | omega | decide) only [go_sem, f0, f1, f2, f8, f7, o7, peekL, eb, ec, h3, eq_self, decide_true]; rfl)]); simp (disch := first | omega | decide) only [go_sem, f0, f1, f2, f8, f7, o7, peekL, eb, ec, h3, eq_self, decide_true]; (first | rw [peek_own (by simp (disch := first | omega | decide) only [go_sem, f0, f1, f2, f8, f7, o7, peekL, eb, ec, h3, eq_self, decide_true]; rfl)] | rw [mwp_reify_own (by simp (disch := first | omega | decide) only [go_sem, f0, f1, f2, f8, f7, o7, peekL, eb, ec, h3, eq_self, decide_true]; rfl)]); exact hQ) | ((first | rw [peek_own (by simp (disch := first | omega | decide) only [go_sem, f0, f1, f2, f8, f7, o7, peekL, eb, ec, h3, eq_self, decide_true]; rfl)] | rw [mwp_reify_own (by simp (disch := first | omega | decide) only [go_sem, f0, f1, f2, f8, f7, o7, peekL, eb, ec, h3, eq_self, decide_true]; rfl)]); simp (disch := first | omega | decide) only [go_sem, f0, f1, f2, f8, f7, o7, peekL, eb, ec, h3, eq_self, decide_true]; exact hQ)
        · exact good_Of false [(nb, lb2)] (by simp) (by simp [xor3]; omega)
        · simp [-List.map_take, -List.map_drop, noPtrL, noPtr, noPtrL_bsl, noPtrL_map, sub]
        · rfl
        · exact hK _
      iterate 2 (apply aops_step (by decide) rfl; · (intro K hK; simp (disch := first | omega | decide) only [go_sem, f0, f1, f2, f8, f7, o7, eb, ec, h3, eq_self, decide_true]; exact hK _))
      apply aops_step (by decide) rfl
      · intro K hK
        rw [act_bs el105 ti22]
        first | (simp [-List.map_take, -List.map_drop, go_sem, elems_v, cellishAV, Value.oneCell', isAggAV, partsOf, TI.z, TI.mk1, f0, f1, f2, f8, f7, o7]; exact hK _) | (simp (disch := first | omega | decide) only [go_sem, f0, f1, f2, f8, f7, o7, List.map, elems_cons, eb, ec, h3, eq_self, decide_true]; rw [if_pos (by decide)]; simp (disch := first | omega | decide) only [go_sem, f0, f1, f2, f8, f7, o7, List.map, elems_cons, eb, ec, h3, eq_self, decide_true]; rw [mwp_reify_own (by simp (disch := first | omega | decide) only [go_sem, f0, f1, f2, f8, f7, o7, List.map, elems_cons, eb, ec, h3, eq_self, decide_true]; rfl)]; (first | rw [sub_full (by simp [xor3])] | skip); simp [-List.map_take, -List.map_drop, go_sem, cellishAV, Value.oneCell', isAggAV, partsOf, TI.z, TI.mk1, mwp_if, sub]; exact hK _)
      apply aops_step (by decide) rfl
      · intro K hK
        simp (disch := first | omega | decide) only [go_sem, f0, f1, f2, f8, f7, o7, act_call, List.map, eb, ec, h3, eq_self, decide_true]
        apply mwp_call_s rfl rfl rfl
        · intro Q hQ
          simp (disch := first | omega | decide) only [go_sem, f0, f1, f2, f8, f7, o7, peekL, reifyL_nil, reifyL_cons, reify_v, eb, ec, h3, eq_self, decide_true]
          first | exact hQ | ((first | rw [peek_own (by simp (disch := first | omega | decide) only [go_sem, f0, f1, f2, f8, f7, o7, peekL, eb, ec, h3, eq_self, decide_true]; rfl)] | rw [mwp_reify_own (by simp (disch := first | omega | decide) only [go_sem, f0, f1, f2, f8, f7, o7, peekL, eb, ec, h3, eq_self, decide_true]; rfl)]); exact hQ) | ((first | rw [peek_own (by simp (disch := first | omega | decide) only [go_sem, f0, f1, f2, f8, f7, o7, peekL, eb, ec, h3, eq_self, decide_true]; rfl)] | rw [mwp_reify_own (by simp (disch := first | omega | decide) only [go_sem, f0, f1, f2, f8, f7, o7, peekL, eb, ec, h3, eq_self, decide_true]; rfl)]); simp (disch := first | omega | decide) only [go_sem, f0, f1, f2, f8, f7, o7, peekL, eb, ec, h3, eq_self, decide_true]; (first | rw [peek_own (by simp (disch := first | omega | decide) only [go_sem, f0, f1, f2, f8, f7, o7, peekL, eb, ec, h3, eq_self, decide_true]; rfl)] | rw [mwp_reify_own (by simp (disch := first | omega | decide) only [go_sem, f0, f1, f2, f8, f7, o7, peekL, eb, ec, h3, eq_self, decide_true]; rfl)]); exact hQ) | ((first | rw [peek_own (by simp (disch := first | omega | decide) only [go_sem, f0, f1, f2, f8, f7, o7, peekL, eb, ec, h3, eq_self, decide_true]; rfl)] | rw [mwp_reify_own (by simp (disch := first | omega | decide) only [go_sem, f0, f1, f2, f8, f7, o7, peekL, eb, ec, h3, eq_self, decide_true]; rfl)]); simp (disch := first | omega | decide) only [go_sem, f0, f1, f2, f8, f7, o7, peekL, eb, ec, h3, eq_self, decide_true]; exact hQ)
        · exact good_Of false [(nc, lc2)] (by simp) (by simp [xor3]; omega)
        · simp [-List.map_take, -List.map_drop, noPtrL, noPtr, noPtrL_bsl, noPtrL_map, sub]
        · rfl
        · exact hK _
      iterate 3 (apply aops_step (by decide) rfl; · (intro K hK; simp (disch := first | omega | decide) only [go_sem, f0, f1, f2, f8, f7, o7, eb, ec, h3, eq_self, decide_true]; exact hK _))
      apply aops_step (by decide) rfl
      · intro K hK
        simp (disch := first | omega | decide) only [go_sem, f0, f1, f2, f8, f7, o7, act_call, List.map, eb, ec, h3, eq_self, decide_true]
        apply mwp_call_s rfl rfl rfl
        · intro Q hQ
          simp (disch := first | omega | decide) only [go_sem, f0, f1, f2, f8, f7, o7, peekL, reifyL_nil, reifyL_cons, reify_v, eb, ec, h3, eq_self, decide_true]
          first | exact hQ | ((first | rw [peek_own (by simp (disch := first | omega | decide) only [go_sem, f0, f1, f2, f8, f7, o7, peekL, eb, ec, h3, eq_self, decide_true]; rfl)] | rw [mwp_reify_own (by simp (disch := first | omega | decide) only [go_sem, f0, f1, f2, f8, f7, o7, peekL, eb, ec, h3, eq_self, decide_true]; rfl)]); exact hQ) | ((first | rw [peek_own (by simp (disch := first | omega | decide) only [go_sem, f0, f1, f2, f8, f7, o7, peekL, eb, ec, h3, eq_self, decide_true]; rfl)] | rw [mwp_reify_own (by simp (disch := first | omega | decide) only [go_sem, f0, f1, f2, f8, f7, o7, peekL, eb, ec, h3, eq_self, decide_true]; rfl)]); simp (disch := first | omega | decide) only [go_sem, f0, f1, f2, f8, f7, o7, peekL, eb, ec, h3, eq_self, decide_true]; (first | rw [peek_own (by simp (disch := first | omega | decide) only [go_sem, f0, f1, f2, f8, f7, o7, peekL, eb, ec, h3, eq_self, decide_true]; rfl)] | rw [mwp_reify_own (by simp (disch := first | omega | decide) only [go_sem, f0, f1, f2, f8, f7, o7, peekL, eb, ec, h3, eq_self, decide_true]; rfl)]); exact hQ) | ((first | rw [peek_own (by simp (disch := first | omega | decide) only [go_sem, f0, f1, f2, f8, f7, o7, peekL, eb, ec, h3, eq_self, decide_true]; rfl)] | rw [mwp_reify_own (by simp (disch := first | omega | decide) only [go_sem, f0, f1, f2, f8, f7, o7, peekL, eb, ec, h3, eq_self, decide_true]; rfl)]); simp (disch := first | omega | decide) only [go_sem, f0, f1, f2, f8, f7, o7, peekL, eb, ec, h3, eq_self, decide_true]; exact hQ)
        · exact good_awake
        · simp [-List.map_take, -List.map_drop, noPtrL, noPtr, noPtrL_bsl, noPtrL_map, sub]
        · rfl
        · exact hK _
      iterate 2 (apply aops_step (by decide) rfl; · (intro K hK; simp (disch := first | omega | decide) only [go_sem, f0, f1, f2, f8, f7, o7, eb, ec, h3, eq_self, decide_true]; exact hK _))
      refine aops_nil ?_
      refine AW.ret ?_
      refine ⟨.inr rfl, ?_⟩
      refine leaves_tmp1 6 rfl ?_ (by first | rfl | exact hG)
      simp (disch := first | omega | decide) only [go_sem, f0, f1, f2, f8, f7, o7, eb, ec, h3, eq_self, decide_true]

theorem shr_bit (X : BitVec 32) (k : Nat) : decide ((((X >>> k) % 2#32).toNat : Int) = 1) = X.getLsbD k := by
  have h : (X >>> k) % 2#32 = bit1 (X.getLsbD k) := by
    rw [low2, bit1_shift X k]
    apply BitVec.eq_of_getLsbD_eq
    intro i hi
    simp only [BitVec.getLsbD_and, BitVec.getLsbD_xor, BitVec.getLsbD_shiftLeft, BitVec.getLsbD_one]
    cases i with
    | zero => simp
    | succ i => cases hX : X.getLsbD k <;> simp [bit1]
  rw [h]
  cases X.getLsbD k <;> decide
theorem told_toNat (a b : BitVec 32) : decide ((a.toNat : Int) ≠ (b.toNat : Int)) = decide (a ≠ b) := by
  apply decide_eq_decide.2
  constructor
  · exact fun h e => h (by rw [e])
  · exact fun h e => h (BitVec.eq_of_toNat_eq (by omega))
set_option maxHeartbeats 4000000 in
set_option maxRecDepth 100000 in
theorem good_CheckTurns (nil : Bool) (l : List (BitVec 8)) (y : Int) (X : BitVec 32) (hl : l.length ≤ 9223372036854775807) (hy : 0 ≤ y ∧ y ≤ 65535) : Good Try.prog 5 [(.sl 1 nil (bsl l), false), (.i .u16 y, false), (u32 X, false)] [] [(.b true, false)] [] := by
  refine good_of_body2 78 Try.func5 rfl rfl rfl (by simp) ?_
  intro s m ha hr hv hG
  have f0 : s 0 = .v (.sl 1 nil (bsl l)) := ha 0 _ rfl
  have f1 : s 1 = .v (.i .u16 y) := ha 1 _ rfl
  have f2 : s 2 = .v (u32 X) := ha 2 _ rfl
  clear ha
  obtain ⟨s0, es⟩ : ∃ s : Nat, y % (8 * (l.length : Int)) = (s : Int) := ⟨(y % (8 * (l.length : Int))).toNat, by rw [Int.toNat_of_nonneg]; rcases Nat.eq_zero_or_pos l.length with h | h; rw [h]; simpa using hy.1; exact Int.emod_nonneg _ (by omega)⟩
  have hs : l.length ≠ 0 → (s0 : Int) < 8 * (l.length : Int) := fun h => es ▸ Int.emod_lt_of_pos y (by omega)
  have tt := turned_told nil false l s0 X (min 32 (8 * l.length - s0)) (by omega)
  refine AW.seq ?_
  refine AW.region (cfg := cfg) ?_
  iterate 1 (apply aops_step (by decide) rfl; · (intro K hK; simp (disch := first | omega | decide) only [go_sem, f0, f1, f2, es, two32, shr_bit, told_toNat]; exact hK _))
  refine aops_nil ?_
  refine AW.seq ?_
  refine AW.seq ?_
  refine AW.region (cfg := cfg) ?_
  iterate 4 (apply aops_step (by decide) rfl; · (intro K hK; simp (disch := first | omega | decide) only [go_sem, f0, f1, f2, List.map, List.length_map, aops_len u22, es, two32, shr_bit, told_toNat]; exact hK _))
  apply aops_merge' (by decide) (by first | exact want_of (d := 15) rfl (by simp (disch := first | omega | decide) only [go_sem, f0, f1, f2, opn_cond, es, two32, shr_bit, told_toNat]; rfl) | exact want_of_cond (d := 15) rfl (by simp (disch := first | omega | decide) only [go_sem, f0, f1, f2, opn_cond, es, two32, shr_bit, told_toNat]; rfl))
  · intro hc K hK
    have hc2 := hc
    simp only [beq_iff_eq, decide_eq_true_eq, decide_eq_false_iff_not, Bool.or_eq_true, Bool.and_eq_true, Bool.or_eq_false_iff, Bool.and_eq_false_iff] at hc2
    simp (disch := first | omega | decide) only [go_sem, f0, f1, f2, opn_cond, hc, if_true, es, two32, shr_bit, told_toNat]
    exact hK _
  apply aops_merge' (by decide) (by first | exact want_of (d := 15) rfl (by simp (disch := first | omega | decide) only [go_sem, f0, f1, f2, opn_cond, es, two32, shr_bit, told_toNat]; rfl) | exact want_of_cond (d := 15) rfl (by simp (disch := first | omega | decide) only [go_sem, f0, f1, f2, opn_cond, es, two32, shr_bit, told_toNat]; rfl))
  · intro hc K hK
    have hc2 := hc
    simp only [beq_iff_eq, decide_eq_true_eq, decide_eq_false_iff_not, Bool.or_eq_true, Bool.and_eq_true, Bool.or_eq_false_iff, Bool.and_eq_false_iff] at hc2
    simp (disch := first | omega | decide) only [go_sem, f0, f1, f2, opn_cond, hc, if_true, List.map, List.length_map, aops_len u22, es, two32, shr_bit, told_toNat]
    exact hK _
  apply aops_merge' (by decide) (by first | exact want_of (d := 15) rfl (by simp (disch := first | omega | decide) only [go_sem, f0, f1, f2, opn_cond, es, two32, shr_bit, told_toNat]; rfl) | exact want_of_cond (d := 15) rfl (by simp (disch := first | omega | decide) only [go_sem, f0, f1, f2, opn_cond, es, two32, shr_bit, told_toNat]; rfl))
  · intro hc K hK
    have hc2 := hc
    simp only [beq_iff_eq, decide_eq_true_eq, decide_eq_false_iff_not, Bool.or_eq_true, Bool.and_eq_true, Bool.or_eq_false_iff, Bool.and_eq_false_iff] at hc2
    simp (disch := first | omega | decide) only [go_sem, f0, f1, f2, opn_cond, hc, if_true, es, two32, shr_bit, told_toNat]
    exact hK _
  iterate 1 (apply aops_step (by decide) rfl; · (intro K hK; simp (disch := first | omega | decide) only [go_sem, f0, f1, f2, es, two32, shr_bit, told_toNat]; exact hK _))
  refine aops_nil ?_
  apply AW.cond
  · simp (disch := first | omega | decide) only [go_sem, f0, f1, f2, es, two32, shr_bit, told_toNat]; rfl
  case ht =>
    intro hb
    try simp only [Bool.or_eq_true, Bool.and_eq_true, Bool.or_eq_false_iff, Bool.and_eq_false_iff, decide_eq_true_eq, decide_eq_false_iff_not] at hb
    have hbt19 := hb
    refine AW.seq ?_
    refine AW.region (cfg := cfg) ?_
    apply aops_step (by decide) rfl
    · intro K hK
      simp (disch := first | omega | decide) only [go_sem, f0, f1, f2, act_call, List.map, es, two32, shr_bit, told_toNat]
      apply mwp_call_s rfl rfl rfl
      · intro Q hQ
        simp (disch := first | omega | decide) only [go_sem, f0, f1, f2, peekL, reifyL_nil, reifyL_cons, reify_v, es, two32, shr_bit, told_toNat]
        first | exact hQ | ((first | rw [peek_own (by simp (disch := first | omega | decide) only [go_sem, f0, f1, f2, peekL, es, two32, shr_bit, told_toNat]; rfl)] | rw [mwp_reify_own (by simp (disch := first | omega | decide) only [go_sem, f0, f1, f2, peekL, es, two32, shr_bit, told_toNat]; rfl)]); exact hQ) | ((first | rw [peek_own (by simp (disch := first | omega | decide) only [go_sem, f0, f1, f2, peekL, es, two32, shr_bit, told_toNat]; rfl)] | rw [mwp_reify_own (by simp (disch := first | omega | decide) only [go_sem, f0, f1, f2, peekL, es, two32, shr_bit, told_toNat]; rfl)]); simp (disch := first | omega | decide) only [go_sem, f0, f1, f2, peekL, es, two32, shr_bit, told_toNat]; (first | rw [peek_own (by simp (disch := first | omega | decide) only [go_sem, f0, f1, f2, peekL, es, two32, shr_bit, told_toNat]; rfl)] | rw [mwp_reify_own (by simp (disch := first | omega | decide) only [go_sem, f0, f1, f2, peekL, es, two32, shr_bit, told_toNat]; rfl)]); exact hQ) | ((first | rw [peek_own (by simp (disch := first | omega | decide) only [go_sem, f0, f1, f2, peekL, es, two32, shr_bit, told_toNat]; rfl)] | rw [mwp_reify_own (by simp (disch := first | omega | decide) only [go_sem, f0, f1, f2, peekL, es, two32, shr_bit, told_toNat]; rfl)]); simp (disch := first | omega | decide) only [go_sem, f0, f1, f2, peekL, es, two32, shr_bit, told_toNat]; exact hQ)
      · exact good_awake
      · simp [-List.map_take, -List.map_drop, noPtrL, noPtr, noPtrL_bsl, noPtrL_map, sub]
      · rfl
      · exact hK _
    iterate 1 (apply aops_step (by decide) rfl; · (intro K hK; simp (disch := first | omega | decide) only [go_sem, f0, f1, f2, es, two32, shr_bit, told_toNat]; exact hK _))
    refine aops_nil ?_
    refine AW.ret ?_
    refine ⟨.inr rfl, ?_⟩
    refine leaves_tmp1 6 rfl ?_ (by first | rfl | exact hG)
    simp (disch := first | omega | decide) only [go_sem, f0, f1, f2, es, two32, shr_bit, told_toNat]
    try (rw [tt (by omega)]; simp)
  case hf =>
    intro hb
    try simp only [Bool.or_eq_true, Bool.and_eq_true, Bool.or_eq_false_iff, Bool.and_eq_false_iff, decide_eq_true_eq, decide_eq_false_iff_not] at hb
    have hbt19 := hb
    refine AW.skip ?_
    refine AW.seq ?_
    refine AW.region (cfg := cfg) ?_
    iterate 7 (apply aops_step (by decide) rfl; · (intro K hK; simp (disch := first | omega | decide) only [go_sem, f0, f1, f2, act_convI u23 u3, List.map, List.length_map, aops_len u22, es, two32, shr_bit, told_toNat]; exact hK _))
    refine aops_nil ?_
    refine AW.seq ?_
    refine AW.region (cfg := cfg) ?_
    apply aops_step (by decide) rfl
    · intro K hK
      rw [act_bs el22 ti5]
      first | (simp [-List.map_take, -List.map_drop, go_sem, elems_v, cellishAV, Value.oneCell', isAggAV, partsOf, TI.z, TI.mk1, f0, f1, f2]; exact hK _) | (simp (disch := first | omega | decide) only [go_sem, f0, f1, f2, List.map, elems_cons, es, two32, shr_bit, told_toNat]; rw [if_pos (by decide)]; simp (disch := first | omega | decide) only [go_sem, f0, f1, f2, List.map, elems_cons, es, two32, shr_bit, told_toNat]; rw [mwp_reify_own (by simp (disch := first | omega | decide) only [go_sem, f0, f1, f2, List.map, elems_cons, es, two32, shr_bit, told_toNat]; rfl)]; (first | rw [sub_full (by simp [turnS_length])] | skip); simp [-List.map_take, -List.map_drop, go_sem, cellishAV, Value.oneCell', isAggAV, partsOf, TI.z, TI.mk1, mwp_if, sub]; exact hK _)
    iterate 1 (apply aops_step (by decide) rfl; · (intro K hK; simp (disch := first | omega | decide) only [go_sem, f0, f1, f2, es, two32, shr_bit, told_toNat]; exact hK _))
    apply aops_step (by decide) rfl
    · intro K hK
      simp (disch := first | omega | decide) only [go_sem, f0, f1, f2, List.map, es, two32, shr_bit, told_toNat]
      apply mwp_append2 el22 ti5 u22
      case hpk => intro Q hQ; first | exact hQ | (rw [peek_own (by simp (disch := first | omega | decide) only [go_sem, f0, f1, f2, es, two32, shr_bit, told_toNat]; rfl)]; exact hQ)
      case hs' => rfl
      case ho => simp (disch := first | omega | decide) only [go_sem, f0, f1, f2, es, two32, shr_bit, told_toNat]; rfl
      case hsz => rfl
      case hhi => simp [turnS_length]
      case hb => simp [sub, roomB]; omega
      case hy => simp [sub, cellsOf]
      case k => exact hK _
    apply aops_step (by decide) rfl
    · intro K hK
      simp (disch := first | omega | decide) only [go_sem, f0, f1, f2, es, two32, shr_bit, told_toNat]
      rw [asg_tmp (by simp (disch := first | omega | decide) only [go_sem, f0, f1, f2, es, two32, shr_bit, told_toNat]; rfl)]
      exact hK _
    refine aops_nil ?_
    refine AW.seq ?_
    refine AW.region (cfg := cfg) ?_
    iterate 1 (apply aops_step (by decide) rfl; · (intro K hK; simp (disch := first | omega | decide) only [go_sem, f0, f1, f2, es, two32, shr_bit, told_toNat]; exact hK _))
    refine aops_nil ?_
    refine AW.seq ?_
    refine AW.seq ?_
    refine AW.region (cfg := cfg) ?_
    iterate 1 (apply aops_step (by decide) rfl; · (intro K hK; simp (disch := first | omega | decide) only [go_sem, f0, f1, f2, es, two32, shr_bit, told_toNat]; exact hK _))
    refine aops_nil ?_
    refine AW.block ?_
    refine AW.forN (fun k σ => ∃ s m, σ = ⟨78, s, m⟩ ∧ s 0 = .v (.sl 1 nil (bsl l)) ∧ s 2 = .v (u32 X) ∧ s 7 = .v (i64 s0) ∧ s 8 = .own (.var 8) (m.objs (.var 8)).1 0 (l.length) ∧ (m.objs (.var 8)).2 = .arr false 1 (bsl (turnS l s0 X k)) ∧ s 9 = .v (.b (turnedS X k)) ∧ s 10 = .v (i64 k) ∧ m.G = []) (min 32 (8 * l.length - s0)) ?_ ?_ ?_
    · refine ⟨_, _, rfl, ?_, ?_, ?_, ?_, ?_, ?_, ?_, hG⟩ <;> try simp (disch := first | omega | decide) only [go_sem, f0, f1, f2, es, two32, shr_bit, told_toNat]
      all_goals first | rfl | (simp; done)
    · clear f0 f1 f2 hG
      rintro k σ hk ⟨s, m, rfl, f0, f2, f7, f8, o8, f9, f10, hG⟩
      obtain ⟨g8, o8⟩ : ∃ g, m.objs (.var 8) = (g, .arr false 1 (bsl (turnS l s0 X k))) := ⟨_, Prod.ext rfl o8⟩
      rw [o8] at f8
      refine AW.seq ?_
      refine AW.seq ?_
      refine AW.region (cfg := cfg) ?_
      iterate 3 (apply aops_step (by decide) rfl; · (intro K hK; simp (disch := first | omega | decide) only [go_sem, f0, f2, f7, f8, f9, f10, o8, es, two32, shr_bit, told_toNat]; exact hK _))
      apply aops_merge' (by decide) (by first | exact want_of (d := 32) rfl (by simp (disch := first | omega | decide) only [go_sem, f0, f2, f7, f8, f9, f10, o8, opn_cond, es, two32, shr_bit, told_toNat]; rfl) | exact want_of_cond (d := 32) rfl (by simp (disch := first | omega | decide) only [go_sem, f0, f2, f7, f8, f9, f10, o8, opn_cond, es, two32, shr_bit, told_toNat]; rfl))
      · intro hc K hK
        have hc2 := hc
        simp only [beq_iff_eq, decide_eq_true_eq, decide_eq_false_iff_not, Bool.or_eq_true, Bool.and_eq_true, Bool.or_eq_false_iff, Bool.and_eq_false_iff] at hc2
        simp (disch := first | omega | decide) only [go_sem, f0, f2, f7, f8, f9, f10, o8, opn_cond, hc, if_true, es, two32, shr_bit, told_toNat]
        exact hK _
      apply aops_merge' (by decide) (by first | exact want_of (d := 32) rfl (by simp (disch := first | omega | decide) only [go_sem, f0, f2, f7, f8, f9, f10, o8, opn_cond, es, two32, shr_bit, told_toNat]; rfl) | exact want_of_cond (d := 32) rfl (by simp (disch := first | omega | decide) only [go_sem, f0, f2, f7, f8, f9, f10, o8, opn_cond, es, two32, shr_bit, told_toNat]; rfl))
      · intro hc K hK
        have hc2 := hc
        simp only [beq_iff_eq, decide_eq_true_eq, decide_eq_false_iff_not, Bool.or_eq_true, Bool.and_eq_true, Bool.or_eq_false_iff, Bool.and_eq_false_iff] at hc2
        simp (disch := first | omega | decide) only [go_sem, f0, f2, f7, f8, f9, f10, o8, opn_cond, hc, if_true, es, two32, shr_bit, told_toNat]
        exact hK _
      apply aops_merge' (by decide) (by first | exact want_of (d := 32) rfl (by simp (disch := first | omega | decide) only [go_sem, f0, f2, f7, f8, f9, f10, o8, opn_cond, es, two32, shr_bit, told_toNat]; rfl) | exact want_of_cond (d := 32) rfl (by simp (disch := first | omega | decide) only [go_sem, f0, f2, f7, f8, f9, f10, o8, opn_cond, es, two32, shr_bit, told_toNat]; rfl))
      · intro hc K hK
        have hc2 := hc
        simp only [beq_iff_eq, decide_eq_true_eq, decide_eq_false_iff_not, Bool.or_eq_true, Bool.and_eq_true, Bool.or_eq_false_iff, Bool.and_eq_false_iff] at hc2
        simp (disch := first | omega | decide) only [go_sem, f0, f2, f7, f8, f9, f10, o8, opn_cond, hc, if_true, es, two32, shr_bit, told_toNat]
        exact hK _
      apply aops_merge' (by decide) (by first | exact want_of (d := 32) rfl (by simp (disch := first | omega | decide) only [go_sem, f0, f2, f7, f8, f9, f10, o8, opn_cond, es, two32, shr_bit, told_toNat]; rfl) | exact want_of_cond (d := 32) rfl (by simp (disch := first | omega | decide) only [go_sem, f0, f2, f7, f8, f9, f10, o8, opn_cond, es, two32, shr_bit, told_toNat]; rfl))
      · intro hc K hK
        have hc2 := hc
        simp only [beq_iff_eq, decide_eq_true_eq, decide_eq_false_iff_not, Bool.or_eq_true, Bool.and_eq_true, Bool.or_eq_false_iff, Bool.and_eq_false_iff] at hc2
        simp (disch := first | omega | decide) only [go_sem, f0, f2, f7, f8, f9, f10, o8, opn_cond, hc, if_true, es, two32, shr_bit, told_toNat]
        exact hK _
      apply aops_merge' (by decide) (by first | exact want_of (d := 32) rfl (by simp (disch := first | omega | decide) only [go_sem, f0, f2, f7, f8, f9, f10, o8, opn_cond, es, two32, shr_bit, told_toNat]; rfl) | exact want_of_cond (d := 32) rfl (by simp (disch := first | omega | decide) only [go_sem, f0, f2, f7, f8, f9, f10, o8, opn_cond, es, two32, shr_bit, told_toNat]; rfl))
      · intro hc K hK
        have hc2 := hc
        simp only [beq_iff_eq, decide_eq_true_eq, decide_eq_false_iff_not, Bool.or_eq_true, Bool.and_eq_true, Bool.or_eq_false_iff, Bool.and_eq_false_iff] at hc2
        simp (disch := first | omega | decide) only [go_sem, f0, f2, f7, f8, f9, f10, o8, opn_cond, hc, if_true, List.map, List.length_map, aops_len u22, es, two32, shr_bit, told_toNat]
        exact hK _
      apply aops_merge' (by decide) (by first | exact want_of (d := 32) rfl (by simp (disch := first | omega | decide) only [go_sem, f0, f2, f7, f8, f9, f10, o8, opn_cond, es, two32, shr_bit, told_toNat]; rfl) | exact want_of_cond (d := 32) rfl (by simp (disch := first | omega | decide) only [go_sem, f0, f2, f7, f8, f9, f10, o8, opn_cond, es, two32, shr_bit, told_toNat]; rfl))
      · intro hc K hK
        have hc2 := hc
        simp only [beq_iff_eq, decide_eq_true_eq, decide_eq_false_iff_not, Bool.or_eq_true, Bool.and_eq_true, Bool.or_eq_false_iff, Bool.and_eq_false_iff] at hc2
        simp (disch := first | omega | decide) only [go_sem, f0, f2, f7, f8, f9, f10, o8, opn_cond, hc, if_true, es, two32, shr_bit, told_toNat]
        exact hK _
      apply aops_merge' (by decide) (by first | exact want_of (d := 32) rfl (by simp (disch := first | omega | decide) only [go_sem, f0, f2, f7, f8, f9, f10, o8, opn_cond, es, two32, shr_bit, told_toNat]; rfl) | exact want_of_cond (d := 32) rfl (by simp (disch := first | omega | decide) only [go_sem, f0, f2, f7, f8, f9, f10, o8, opn_cond, es, two32, shr_bit, told_toNat]; rfl))
      · intro hc K hK
        have hc2 := hc
        simp only [beq_iff_eq, decide_eq_true_eq, decide_eq_false_iff_not, Bool.or_eq_true, Bool.and_eq_true, Bool.or_eq_false_iff, Bool.and_eq_false_iff] at hc2
        simp (disch := first | omega | decide) only [go_sem, f0, f2, f7, f8, f9, f10, o8, opn_cond, hc, if_true, es, two32, shr_bit, told_toNat]
        exact hK _
      iterate 1 (apply aops_step (by decide) rfl; · (intro K hK; simp (disch := first | omega | decide) only [go_sem, f0, f2, f7, f8, f9, f10, o8, es, two32, shr_bit, told_toNat]; exact hK _))
      refine aops_nil ?_
      apply AW.cond
      · simp (disch := first | omega | decide) only [go_sem, f0, f2, f7, f8, f9, f10, o8, es, two32, shr_bit, told_toNat]; rfl
      case hf => intro hb; first | (simp at hb; done) | (simp at hb; omega)
      case ht =>
      intro hb
      have hbt40 := hb
      refine AW.skip ?_
      refine AW.seq ?_
      refine AW.block ?_
      refine AW.seq ?_
      refine AW.region (cfg := cfg) ?_
      iterate 6 (apply aops_step (by decide) rfl; · (intro K hK; simp (disch := first | omega | decide) only [go_sem, f0, f2, f7, f8, f9, f10, o8, act_convI u3 u30, es, two32, shr_bit, told_toNat]; exact hK _))
      refine aops_nil ?_
      apply AW.cond
      · simp (disch := first | omega | decide) only [go_sem, f0, f2, f7, f8, f9, f10, o8, es, two32, shr_bit, told_toNat]; rfl
      case ht =>
        intro hb
        try simp only [Bool.or_eq_true, Bool.and_eq_true, Bool.or_eq_false_iff, Bool.and_eq_false_iff, decide_eq_true_eq, decide_eq_false_iff_not] at hb
        have hbt48 := hb
        refine AW.seq ?_
        refine AW.region (cfg := cfg) ?_
        iterate 4 (apply aops_step (by decide) rfl; · (intro K hK; simp (disch := first | omega | decide) only [go_sem, f0, f2, f7, f8, f9, f10, o8, es, two32, shr_bit, told_toNat]; exact hK _))
        refine aops_nil ?_
        refine AW.seq ?_
        refine AW.region (cfg := cfg) ?_
        iterate 6 (apply aops_step (by decide) rfl; · (intro K hK; simp (disch := first | omega | decide) only [go_sem, f0, f2, f7, f8, f9, f10, o8, es, two32, shr_bit, told_toNat]; exact hK _))
        apply aops_step (by decide) rfl
        · intro K hK
          simp (disch := first | omega | decide) only [go_sem, f0, f2, f7, f8, f9, f10, o8, act_indexAddr_s u22 ti5, List.map, es, two32, shr_bit, told_toNat]
          first | rw [mwp_aIndex_own (by simp (disch := first | omega | decide) only [go_sem, f0, f2, f7, f8, f9, f10, o8, es, two32, shr_bit, told_toNat]; rfl) (by first | omega | (simp; omega)) (by first | omega | (simp [turnS_length]; omega))] | skip
          exact hK _
        apply aops_step (by decide) rfl
        · intro K hK
          simp (disch := first | omega | decide) only [go_sem, f0, f2, f7, f8, f9, f10, o8, act_load_t ti5, List.map, es, two32, shr_bit, told_toNat]
          first | rw [mwp_load_i1 (by rfl)] | rw [mwp_load_g1 (by first | (rw [hG]; rfl) | rfl) (by rfl)] | rw [mwp_load_gs (by first | (rw [hG]; rfl) | rfl) (by simp)] | rw [mwp_load_bs (by simp (disch := first | omega | decide) only [go_sem, f0, f2, f7, f8, f9, f10, o8, es, two32, shr_bit, told_toNat]; rfl) (by simp [setAt])] | rw [mwp_load_b1 (by simp (disch := first | omega | decide) only [go_sem, f0, f2, f7, f8, f9, f10, o8, es, two32, shr_bit, told_toNat]; rfl) (by rfl)] | rw [mwp_aLoad_map (by simp (disch := first | omega | decide) only [go_sem, f0, f2, f7, f8, f9, f10, o8, es, two32, shr_bit, told_toNat]; rfl) (by first | omega | (simp [turnS_length]; omega)) (fun _ => rfl)] | rw [mwp_aLoad_e1 (by simp (disch := first | omega | decide) only [go_sem, f0, f2, f7, f8, f9, f10, o8, es, two32, shr_bit, told_toNat]; rfl) (by simp) rfl] | skip
          exact hK _
        iterate 5 (apply aops_step (by decide) rfl; · (intro K hK; simp (disch := first | omega | decide) only [go_sem, f0, f2, f7, f8, f9, f10, o8, act_convI u3 u30, es, two32, shr_bit, told_toNat]; exact hK _))
        apply aops_step (by decide) rfl
        · intro K hK
          simp (disch := first | omega | decide) only [go_sem, f0, f2, f7, f8, f9, f10, o8, act_indexAddr_s u22 ti5, List.map, es, two32, shr_bit, told_toNat]
          first | rw [mwp_aIndex_own (by simp (disch := first | omega | decide) only [go_sem, f0, f2, f7, f8, f9, f10, o8, es, two32, shr_bit, told_toNat]; rfl) (by first | omega | (simp; omega)) (by first | omega | (simp [turnS_length]; omega))] | skip
          exact hK _
        apply aops_step0 rfl
        · intro K hK
          simp (disch := first | omega | decide) only [go_sem, f0, f2, f7, f8, f9, f10, o8, act_store_t ti5, List.map, es, two32, shr_bit, told_toNat]
          first | rw [mwp_store_g1 (by first | (rw [hG]; rfl) | rfl) (by simp) rfl rfl] | rw [mwp_store_c (by simp (disch := first | omega | decide) only [go_sem, f0, f2, f7, f8, f9, f10, o8, es, two32, shr_bit, told_toNat]; rfl) (by rfl) (by rfl) (by rfl) (by simp)] | rw [mwp_aStore_map (by simp (disch := first | omega | decide) only [go_sem, f0, f2, f7, f8, f9, f10, o8, es, two32, shr_bit, told_toNat]; rfl) (by first | omega | (simp [turnS_length]; omega)) (fun _ => rfl) rfl rfl (fun _ => rfl)] | skip
          try simp only [setAt, cellsL, cellsOf_agg, cellsOf_base, List.map_cons, List.map_nil, List.set_cons_zero, List.set_cons_succ, Nat.reduceAdd, Nat.zero_add, hG]
          exact hK _
        refine aops_nil ?_
        refine AW.region (cfg := cfg) ?_
        iterate 1 (apply aops_step (by decide) rfl; · (intro K hK; simp (disch := first | omega | decide) only [go_sem, f0, f2, f7, f8, f9, f10, o8, es, two32, shr_bit, told_toNat]; exact hK _))
        refine aops_nil ?_
        refine AW.region (cfg := cfg) ?_
        iterate 3 (apply aops_step (by decide) rfl; · (intro K hK; simp (disch := first | omega | decide) only [go_sem, f0, f2, f7, f8, f9, f10, o8, es, two32, shr_bit, told_toNat]; exact hK _))
        refine aops_nil ?_
        refine ⟨_, _, rfl, ?_, ?_, ?_, ?_, ?_, ?_, ?_, hG⟩ <;> try simp (disch := first | omega | decide) only [go_sem, f0, f2, f7, f8, f9, f10, o8, es, two32, shr_bit, told_toNat]
        all_goals first | rfl | (simp [turnedS, turnS, hb]; done) | skip
        all_goals (have e1 : (((s0 : Int) + (k : Int)) / 8).toNat = (s0 + k) / 8 := by omega)
        all_goals (have e2 : (((s0 : Int) + (k : Int)) % 8).toNat = (s0 + k) % 8 := by omega)
        all_goals (simp only [turnS, hb, if_true, e1, e2, List.map_set, List.getD_eq_getElem?_getD, List.getElem?_eq_getElem (show (s0 + k) / 8 < (turnS l s0 X k).length by rw [turnS_length]; omega), Option.getD_some]; rfl)
      case hf =>
        intro hb
        try simp only [Bool.or_eq_true, Bool.and_eq_true, Bool.or_eq_false_iff, Bool.and_eq_false_iff, decide_eq_true_eq, decide_eq_false_iff_not] at hb
        have hbt48 := hb
        refine AW.skip ?_
        refine AW.region (cfg := cfg) ?_
        iterate 3 (apply aops_step (by decide) rfl; · (intro K hK; simp (disch := first | omega | decide) only [go_sem, f0, f2, f7, f8, f9, f10, o8, es, two32, shr_bit, told_toNat]; exact hK _))
        refine aops_nil ?_
        refine ⟨_, _, rfl, ?_, ?_, ?_, ?_, ?_, ?_, ?_, hG⟩ <;> try simp (disch := first | omega | decide) only [go_sem, f0, f2, f7, f8, f9, f10, o8, es, two32, shr_bit, told_toNat]
        all_goals first | rfl | (simp [turnedS, turnS, hb]; done) | skip
        all_goals (have e1 : (((s0 : Int) + (k : Int)) / 8).toNat = (s0 + k) / 8 := by omega)
        all_goals (have e2 : (((s0 : Int) + (k : Int)) % 8).toNat = (s0 + k) % 8 := by omega)
        all_goals (simp only [turnS, hb, if_true, e1, e2, List.map_set, List.getD_eq_getElem?_getD, List.getElem?_eq_getElem (show (s0 + k) / 8 < (turnS l s0 X k).length by rw [turnS_length]; omega), Option.getD_some]; rfl)
    · clear f0 f1 f2 hG
      rintro σ ⟨s, m, rfl, f0, f2, f7, f8, o8, f9, f10, hG⟩
      obtain ⟨g8, o8⟩ : ∃ g, m.objs (.var 8) = (g, .arr false 1 (bsl (turnS l s0 X (min 32 (8 * l.length - s0))))) := ⟨_, Prod.ext rfl o8⟩
      rw [o8] at f8
      refine AW.seq ?_
      refine AW.seq ?_
      refine AW.region (cfg := cfg) ?_
      iterate 3 (apply aops_step (by decide) rfl; · (intro K hK; simp (disch := first | omega | decide) only [go_sem, f0, f2, f7, f8, f9, f10, o8, es, two32, shr_bit, told_toNat]; exact hK _))
      apply aops_merge' (by decide) (by first | exact want_of (d := 32) rfl (by simp (disch := first | omega | decide) only [go_sem, f0, f2, f7, f8, f9, f10, o8, opn_cond, es, two32, shr_bit, told_toNat]; rfl) | exact want_of_cond (d := 32) rfl (by simp (disch := first | omega | decide) only [go_sem, f0, f2, f7, f8, f9, f10, o8, opn_cond, es, two32, shr_bit, told_toNat]; rfl))
      · intro hc K hK
        have hc2 := hc
        simp only [beq_iff_eq, decide_eq_true_eq, decide_eq_false_iff_not, Bool.or_eq_true, Bool.and_eq_true, Bool.or_eq_false_iff, Bool.and_eq_false_iff] at hc2
        simp (disch := first | omega | decide) only [go_sem, f0, f2, f7, f8, f9, f10, o8, opn_cond, hc, if_true, es, two32, shr_bit, told_toNat]
        exact hK _
      apply aops_merge' (by decide) (by first | exact want_of (d := 32) rfl (by simp (disch := first | omega | decide) only [go_sem, f0, f2, f7, f8, f9, f10, o8, opn_cond, es, two32, shr_bit, told_toNat]; rfl) | exact want_of_cond (d := 32) rfl (by simp (disch := first | omega | decide) only [go_sem, f0, f2, f7, f8, f9, f10, o8, opn_cond, es, two32, shr_bit, told_toNat]; rfl))
      · intro hc K hK
        have hc2 := hc
        simp only [beq_iff_eq, decide_eq_true_eq, decide_eq_false_iff_not, Bool.or_eq_true, Bool.and_eq_true, Bool.or_eq_false_iff, Bool.and_eq_false_iff] at hc2
        simp (disch := first | omega | decide) only [go_sem, f0, f2, f7, f8, f9, f10, o8, opn_cond, hc, if_true, es, two32, shr_bit, told_toNat]
        exact hK _
      apply aops_merge' (by decide) (by first | exact want_of (d := 32) rfl (by simp (disch := first | omega | decide) only [go_sem, f0, f2, f7, f8, f9, f10, o8, opn_cond, es, two32, shr_bit, told_toNat]; rfl) | exact want_of_cond (d := 32) rfl (by simp (disch := first | omega | decide) only [go_sem, f0, f2, f7, f8, f9, f10, o8, opn_cond, es, two32, shr_bit, told_toNat]; rfl))
      · intro hc K hK
        have hc2 := hc
        simp only [beq_iff_eq, decide_eq_true_eq, decide_eq_false_iff_not, Bool.or_eq_true, Bool.and_eq_true, Bool.or_eq_false_iff, Bool.and_eq_false_iff] at hc2
        simp (disch := first | omega | decide) only [go_sem, f0, f2, f7, f8, f9, f10, o8, opn_cond, hc, if_true, es, two32, shr_bit, told_toNat]
        exact hK _
      apply aops_merge' (by decide) (by first | exact want_of (d := 32) rfl (by simp (disch := first | omega | decide) only [go_sem, f0, f2, f7, f8, f9, f10, o8, opn_cond, es, two32, shr_bit, told_toNat]; rfl) | exact want_of_cond (d := 32) rfl (by simp (disch := first | omega | decide) only [go_sem, f0, f2, f7, f8, f9, f10, o8, opn_cond, es, two32, shr_bit, told_toNat]; rfl))
      · intro hc K hK
        have hc2 := hc
        simp only [beq_iff_eq, decide_eq_true_eq, decide_eq_false_iff_not, Bool.or_eq_true, Bool.and_eq_true, Bool.or_eq_false_iff, Bool.and_eq_false_iff] at hc2
        simp (disch := first | omega | decide) only [go_sem, f0, f2, f7, f8, f9, f10, o8, opn_cond, hc, if_true, es, two32, shr_bit, told_toNat]
        exact hK _
      apply aops_merge' (by decide) (by first | exact want_of (d := 32) rfl (by simp (disch := first | omega | decide) only [go_sem, f0, f2, f7, f8, f9, f10, o8, opn_cond, es, two32, shr_bit, told_toNat]; rfl) | exact want_of_cond (d := 32) rfl (by simp (disch := first | omega | decide) only [go_sem, f0, f2, f7, f8, f9, f10, o8, opn_cond, es, two32, shr_bit, told_toNat]; rfl))
      · intro hc K hK
        have hc2 := hc
        simp only [beq_iff_eq, decide_eq_true_eq, decide_eq_false_iff_not, Bool.or_eq_true, Bool.and_eq_true, Bool.or_eq_false_iff, Bool.and_eq_false_iff] at hc2
        simp (disch := first | omega | decide) only [go_sem, f0, f2, f7, f8, f9, f10, o8, opn_cond, hc, if_true, List.map, List.length_map, aops_len u22, es, two32, shr_bit, told_toNat]
        exact hK _
      apply aops_merge' (by decide) (by first | exact want_of (d := 32) rfl (by simp (disch := first | omega | decide) only [go_sem, f0, f2, f7, f8, f9, f10, o8, opn_cond, es, two32, shr_bit, told_toNat]; rfl) | exact want_of_cond (d := 32) rfl (by simp (disch := first | omega | decide) only [go_sem, f0, f2, f7, f8, f9, f10, o8, opn_cond, es, two32, shr_bit, told_toNat]; rfl))
      · intro hc K hK
        have hc2 := hc
        simp only [beq_iff_eq, decide_eq_true_eq, decide_eq_false_iff_not, Bool.or_eq_true, Bool.and_eq_true, Bool.or_eq_false_iff, Bool.and_eq_false_iff] at hc2
        simp (disch := first | omega | decide) only [go_sem, f0, f2, f7, f8, f9, f10, o8, opn_cond, hc, if_true, es, two32, shr_bit, told_toNat]
        exact hK _
      apply aops_merge' (by decide) (by first | exact want_of (d := 32) rfl (by simp (disch := first | omega | decide) only [go_sem, f0, f2, f7, f8, f9, f10, o8, opn_cond, es, two32, shr_bit, told_toNat]; rfl) | exact want_of_cond (d := 32) rfl (by simp (disch := first | omega | decide) only [go_sem, f0, f2, f7, f8, f9, f10, o8, opn_cond, es, two32, shr_bit, told_toNat]; rfl))
      · intro hc K hK
        have hc2 := hc
        simp only [beq_iff_eq, decide_eq_true_eq, decide_eq_false_iff_not, Bool.or_eq_true, Bool.and_eq_true, Bool.or_eq_false_iff, Bool.and_eq_false_iff] at hc2
        simp (disch := first | omega | decide) only [go_sem, f0, f2, f7, f8, f9, f10, o8, opn_cond, hc, if_true, es, two32, shr_bit, told_toNat]
        exact hK _
      iterate 1 (apply aops_step (by decide) rfl; · (intro K hK; simp (disch := first | omega | decide) only [go_sem, f0, f2, f7, f8, f9, f10, o8, es, two32, shr_bit, told_toNat]; exact hK _))
      refine aops_nil ?_
      apply AW.cond
      · simp (disch := first | omega | decide) only [go_sem, f0, f2, f7, f8, f9, f10, o8, es, two32, shr_bit, told_toNat]; rfl
      case ht => intro hb; first | (simp at hb; done) | (simp at hb; omega)
      case hf =>
      intro hb
      have hbt40 := hb
      refine AW.exit ?_
      refine AW.seq ?_
      refine AW.region (cfg := cfg) ?_
      iterate 1 (apply aops_step (by decide) rfl; · (intro K hK; simp (disch := first | omega | decide) only [go_sem, f0, f2, f7, f8, f9, f10, o8, es, two32, shr_bit, told_toNat]; exact hK _))
      apply aops_step (by decide) rfl
      · intro K hK
        rw [act_bs el105 ti22]
        first | (simp [-List.map_take, -List.map_drop, go_sem, elems_v, cellishAV, Value.oneCell', isAggAV, partsOf, TI.z, TI.mk1, f0, f2, f7, f8, f9, f10, o8]; exact hK _) | (simp (disch := first | omega | decide) only [go_sem, f0, f2, f7, f8, f9, f10, o8, List.map, elems_cons, es, two32, shr_bit, told_toNat]; rw [if_pos (by decide)]; simp (disch := first | omega | decide) only [go_sem, f0, f2, f7, f8, f9, f10, o8, List.map, elems_cons, es, two32, shr_bit, told_toNat]; rw [mwp_reify_own (by simp (disch := first | omega | decide) only [go_sem, f0, f2, f7, f8, f9, f10, o8, List.map, elems_cons, es, two32, shr_bit, told_toNat]; rfl)]; (first | rw [sub_full (by simp [turnS_length])] | skip); simp [-List.map_take, -List.map_drop, go_sem, cellishAV, Value.oneCell', isAggAV, partsOf, TI.z, TI.mk1, mwp_if, sub]; exact hK _)
      apply aops_step (by decide) rfl
      · intro K hK
        simp (disch := first | omega | decide) only [go_sem, f0, f2, f7, f8, f9, f10, o8, act_call, List.map, es, two32, shr_bit, told_toNat]
        apply mwp_call_s rfl rfl rfl
        · intro Q hQ
          simp (disch := first | omega | decide) only [go_sem, f0, f2, f7, f8, f9, f10, o8, peekL, reifyL_nil, reifyL_cons, reify_v, es, two32, shr_bit, told_toNat]
          first | exact hQ | ((first | rw [peek_own (by simp (disch := first | omega | decide) only [go_sem, f0, f2, f7, f8, f9, f10, o8, peekL, es, two32, shr_bit, told_toNat]; rfl)] | rw [mwp_reify_own (by simp (disch := first | omega | decide) only [go_sem, f0, f2, f7, f8, f9, f10, o8, peekL, es, two32, shr_bit, told_toNat]; rfl)]); exact hQ) | ((first | rw [peek_own (by simp (disch := first | omega | decide) only [go_sem, f0, f2, f7, f8, f9, f10, o8, peekL, es, two32, shr_bit, told_toNat]; rfl)] | rw [mwp_reify_own (by simp (disch := first | omega | decide) only [go_sem, f0, f2, f7, f8, f9, f10, o8, peekL, es, two32, shr_bit, told_toNat]; rfl)]); simp (disch := first | omega | decide) only [go_sem, f0, f2, f7, f8, f9, f10, o8, peekL, es, two32, shr_bit, told_toNat]; (first | rw [peek_own (by simp (disch := first | omega | decide) only [go_sem, f0, f2, f7, f8, f9, f10, o8, peekL, es, two32, shr_bit, told_toNat]; rfl)] | rw [mwp_reify_own (by simp (disch := first | omega | decide) only [go_sem, f0, f2, f7, f8, f9, f10, o8, peekL, es, two32, shr_bit, told_toNat]; rfl)]); exact hQ) | ((first | rw [peek_own (by simp (disch := first | omega | decide) only [go_sem, f0, f2, f7, f8, f9, f10, o8, peekL, es, two32, shr_bit, told_toNat]; rfl)] | rw [mwp_reify_own (by simp (disch := first | omega | decide) only [go_sem, f0, f2, f7, f8, f9, f10, o8, peekL, es, two32, shr_bit, told_toNat]; rfl)]); simp (disch := first | omega | decide) only [go_sem, f0, f2, f7, f8, f9, f10, o8, peekL, es, two32, shr_bit, told_toNat]; exact hQ)
        · exact good_Of false [(nil, l)] (by simp) (by simp; omega)
        · simp [-List.map_take, -List.map_drop, noPtrL, noPtr, noPtrL_bsl, noPtrL_map, sub]
        · rfl
        · exact hK _
      iterate 1 (apply aops_step (by decide) rfl; · (intro K hK; simp (disch := first | omega | decide) only [go_sem, f0, f2, f7, f8, f9, f10, o8, es, two32, shr_bit, told_toNat]; exact hK _))
      apply aops_step (by decide) rfl
      · intro K hK
        rw [act_bs el105 ti22]
        first | (simp [-List.map_take, -List.map_drop, go_sem, elems_v, cellishAV, Value.oneCell', isAggAV, partsOf, TI.z, TI.mk1, f0, f2, f7, f8, f9, f10, o8]; exact hK _) | (simp (disch := first | omega | decide) only [go_sem, f0, f2, f7, f8, f9, f10, o8, List.map, elems_cons, es, two32, shr_bit, told_toNat]; rw [if_pos (by decide)]; simp (disch := first | omega | decide) only [go_sem, f0, f2, f7, f8, f9, f10, o8, List.map, elems_cons, es, two32, shr_bit, told_toNat]; rw [mwp_reify_own (by simp (disch := first | omega | decide) only [go_sem, f0, f2, f7, f8, f9, f10, o8, List.map, elems_cons, es, two32, shr_bit, told_toNat]; rfl)]; (first | rw [sub_full (by simp [turnS_length])] | skip); simp [-List.map_take, -List.map_drop, go_sem, cellishAV, Value.oneCell', isAggAV, partsOf, TI.z, TI.mk1, mwp_if, sub]; exact hK _)
      apply aops_step (by decide) rfl
      · intro K hK
        simp (disch := first | omega | decide) only [go_sem, f0, f2, f7, f8, f9, f10, o8, act_call, List.map, es, two32, shr_bit, told_toNat]
        apply mwp_call_s rfl rfl rfl
        · intro Q hQ
          simp (disch := first | omega | decide) only [go_sem, f0, f2, f7, f8, f9, f10, o8, peekL, reifyL_nil, reifyL_cons, reify_v, es, two32, shr_bit, told_toNat]
          first | exact hQ | ((first | rw [peek_own (by simp (disch := first | omega | decide) only [go_sem, f0, f2, f7, f8, f9, f10, o8, peekL, es, two32, shr_bit, told_toNat]; rfl)] | rw [mwp_reify_own (by simp (disch := first | omega | decide) only [go_sem, f0, f2, f7, f8, f9, f10, o8, peekL, es, two32, shr_bit, told_toNat]; rfl)]); exact hQ) | ((first | rw [peek_own (by simp (disch := first | omega | decide) only [go_sem, f0, f2, f7, f8, f9, f10, o8, peekL, es, two32, shr_bit, told_toNat]; rfl)] | rw [mwp_reify_own (by simp (disch := first | omega | decide) only [go_sem, f0, f2, f7, f8, f9, f10, o8, peekL, es, two32, shr_bit, told_toNat]; rfl)]); simp (disch := first | omega | decide) only [go_sem, f0, f2, f7, f8, f9, f10, o8, peekL, es, two32, shr_bit, told_toNat]; (first | rw [peek_own (by simp (disch := first | omega | decide) only [go_sem, f0, f2, f7, f8, f9, f10, o8, peekL, es, two32, shr_bit, told_toNat]; rfl)] | rw [mwp_reify_own (by simp (disch := first | omega | decide) only [go_sem, f0, f2, f7, f8, f9, f10, o8, peekL, es, two32, shr_bit, told_toNat]; rfl)]); exact hQ) | ((first | rw [peek_own (by simp (disch := first | omega | decide) only [go_sem, f0, f2, f7, f8, f9, f10, o8, peekL, es, two32, shr_bit, told_toNat]; rfl)] | rw [mwp_reify_own (by simp (disch := first | omega | decide) only [go_sem, f0, f2, f7, f8, f9, f10, o8, peekL, es, two32, shr_bit, told_toNat]; rfl)]); simp (disch := first | omega | decide) only [go_sem, f0, f2, f7, f8, f9, f10, o8, peekL, es, two32, shr_bit, told_toNat]; exact hQ)
        · exact good_Of false [(false, turnS l s0 X (min 32 (8 * l.length - s0)))] (by simp) (by simp [turnS_length]; omega)
        · simp [-List.map_take, -List.map_drop, noPtrL, noPtr, noPtrL_bsl, noPtrL_map, sub]
        · rfl
        · exact hK _
      iterate 4 (apply aops_step (by decide) rfl; · (intro K hK; simp (disch := first | omega | decide) only [go_sem, f0, f2, f7, f8, f9, f10, o8, bin_eql_b u4, es, two32, shr_bit, told_toNat]; exact hK _))
      apply aops_merge' (by decide) (by first | exact want_of (d := 75) rfl (by simp (disch := first | omega | decide) only [go_sem, f0, f2, f7, f8, f9, f10, o8, opn_cond, es, two32, shr_bit, told_toNat]; rfl) | exact want_of_cond (d := 75) rfl (by simp (disch := first | omega | decide) only [go_sem, f0, f2, f7, f8, f9, f10, o8, opn_cond, es, two32, shr_bit, told_toNat]; rfl))
      · intro hc K hK
        have hc2 := hc
        simp only [beq_iff_eq, decide_eq_true_eq, decide_eq_false_iff_not, Bool.or_eq_true, Bool.and_eq_true, Bool.or_eq_false_iff, Bool.and_eq_false_iff] at hc2
        simp (disch := first | omega | decide) only [go_sem, f0, f2, f7, f8, f9, f10, o8, opn_cond, hc, if_true, act_call, List.map, es, two32, shr_bit, told_toNat]
        apply mwp_call_s rfl rfl rfl
        · intro Q hQ
          simp (disch := first | omega | decide) only [go_sem, f0, f2, f7, f8, f9, f10, o8, opn_cond, hc, if_true, peekL, reifyL_nil, reifyL_cons, reify_v, es, two32, shr_bit, told_toNat]
          first | exact hQ | ((first | rw [peek_own (by simp (disch := first | omega | decide) only [go_sem, f0, f2, f7, f8, f9, f10, o8, peekL, es, two32, shr_bit, told_toNat]; rfl)] | rw [mwp_reify_own (by simp (disch := first | omega | decide) only [go_sem, f0, f2, f7, f8, f9, f10, o8, peekL, es, two32, shr_bit, told_toNat]; rfl)]); exact hQ) | ((first | rw [peek_own (by simp (disch := first | omega | decide) only [go_sem, f0, f2, f7, f8, f9, f10, o8, peekL, es, two32, shr_bit, told_toNat]; rfl)] | rw [mwp_reify_own (by simp (disch := first | omega | decide) only [go_sem, f0, f2, f7, f8, f9, f10, o8, peekL, es, two32, shr_bit, told_toNat]; rfl)]); simp (disch := first | omega | decide) only [go_sem, f0, f2, f7, f8, f9, f10, o8, peekL, es, two32, shr_bit, told_toNat]; (first | rw [peek_own (by simp (disch := first | omega | decide) only [go_sem, f0, f2, f7, f8, f9, f10, o8, peekL, es, two32, shr_bit, told_toNat]; rfl)] | rw [mwp_reify_own (by simp (disch := first | omega | decide) only [go_sem, f0, f2, f7, f8, f9, f10, o8, peekL, es, two32, shr_bit, told_toNat]; rfl)]); exact hQ) | ((first | rw [peek_own (by simp (disch := first | omega | decide) only [go_sem, f0, f2, f7, f8, f9, f10, o8, peekL, es, two32, shr_bit, told_toNat]; rfl)] | rw [mwp_reify_own (by simp (disch := first | omega | decide) only [go_sem, f0, f2, f7, f8, f9, f10, o8, peekL, es, two32, shr_bit, told_toNat]; rfl)]); simp (disch := first | omega | decide) only [go_sem, f0, f2, f7, f8, f9, f10, o8, peekL, es, two32, shr_bit, told_toNat]; exact hQ)
        · exact good_awake
        · simp [-List.map_take, -List.map_drop, noPtrL, noPtr, noPtrL_bsl, noPtrL_map, sub]
        · rfl
        · exact hK _
      iterate 2 (apply aops_step (by decide) rfl; · (intro K hK; simp (disch := first | omega | decide) only [go_sem, f0, f2, f7, f8, f9, f10, o8, es, two32, shr_bit, told_toNat]; exact hK _))
      refine aops_nil ?_
      refine AW.ret ?_
      refine ⟨.inr rfl, ?_⟩
      refine leaves_tmp1 6 rfl ?_ (by first | rfl | exact hG)
      simp (disch := first | omega | decide) only [go_sem, f0, f2, f7, f8, f9, f10, o8, es, two32, shr_bit, told_toNat]
      try (rw [tt (by omega)]; simp)

end Go.Vai.U
