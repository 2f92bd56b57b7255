import Derived.Test.YtblgcekomnnfmaagCfg
import Derived.Test.YtblgcekomnnfmaaChkPl
namespace Go.Vai.U
open Go.Proofs Go.Vai
set_option linter.unusedSimpArgs false
set_option linter.unusedVariables false
set_option maxHeartbeats 4000000
set_option maxRecDepth 100000
theorem moreS_succ {r : BitVec 32} {l : List (BitVec 8)} {k : Nat} (h : k < l.length) : moreS r (l.take (k + 1)) = turns 8 (moreS r (l.take k) ^^^ (l[k]).setWidth 32) := by
  unfold moreS
  rw [List.take_succ_eq_append_getElem h, List.foldl_append]; rfl
def pslice (p : Bool × List (BitVec 8)) : AV := .sl 1 p.1 (bsl p.2)
def ofP (k : Nat) (ps : List (Bool × List (BitVec 8))) : BitVec 32 := ((ps.take k).map (·.2)).foldl moreS 4294967295#32
theorem ofP_succ {ps : List (Bool × List (BitVec 8))} {k : Nat} (h : k < ps.length) : ofP (k + 1) ps = moreS (ofP k ps) (ps[k]).2 := by
  unfold ofP
  rw [List.take_succ_eq_append_getElem h, List.map_append, List.foldl_append]; rfl
theorem ofP_all (ps : List (Bool × List (BitVec 8))) : ~~~ ofP ps.length ps = ofS ps := by simp [ofP, ofS]
theorem cellsOf_ps (p : Bool × List (BitVec 8)) : cellsOf (pslice p) = [.sl 1 p.1 (bsl p.2)] := rfl
attribute [go_sem] cellsOf_ps
def refP (k : Nat) (l : List (BitVec 8)) : BitVec 32 := (l.take k).foldl (fun r c => rbyte c 8 r) 4294967295#32
theorem refP_succ {l : List (BitVec 8)} {k : Nat} (h : k < l.length) : refP (k + 1) l = rbyte (l[k]) 8 (refP k l) := by
  unfold refP
  rw [List.take_succ_eq_append_getElem h, List.foldl_append]; rfl
theorem two32 : BitVec.ofInt 32 2 = 2#32 := rfl
theorem good_more (r : BitVec 32) (nil : Bool) (l : List (BitVec 8)) (hl : l.length ≤ 9223372036854775807) : Good Try.prog 96 [(u32 r, false), (.sl 1 nil (bsl l), false)] [] [(u32 (moreS r l), false)] [] := by
 refine good_of_body2 31 Try.func96 rfl rfl rfl (by simp) ?_
 intro s m ha hr hv hG
 have f0 : s 0 = .v (u32 r) := ha 0 _ rfl
 have f1 : s 1 = .v (.sl 1 nil (bsl l)) := ha 1 _ rfl
 clear ha
 refine AW.sr (cfg := cfg) ?_
 iterate 1 (apply aops_step (by decide) rfl; · (intro K hK; simp (disch := first | omega | decide) only [go_sem, f0, f1]; exact hK _))
 refine aops_nil ?_
 refine AW.seq ?_
 refine AW.sr (cfg := cfg) ?_
 iterate 3 (apply aops_step (by decide) rfl; · (intro K hK; simp (disch := first | omega | decide) only [go_sem, f0, f1, List.map, List.length_map, aops_len u22]; exact hK _))
 refine aops_nil ?_
 refine AW.block ?_
 refine AW.forN (fun k σ => ∃ s m, σ = ⟨31, s, m⟩ ∧ s 0 = .v (u32 (moreS r (l.take k))) ∧ s 8 = .v (.sl 1 nil (bsl l)) ∧ s 9 = .v (i64 l.length) ∧ s 10 = .v (i64 k) ∧ m.G = []) (l.length) ?_ ?_ ?_
 ·refine ⟨_, _, rfl, ?_, ?_, ?_, ?_, (by exact hG)⟩ <;> try simp (disch := first | omega | decide) only [go_sem, f0, f1]
  ·simp [moreS]
  all_goals rfl
 ·clear f0 f1 hG
  rintro k σ hk ⟨s, m, rfl, f0, f8, f9, f10, hG⟩
  refine AW.sr (cfg := cfg) ?_
  iterate 1 (apply aops_step (by decide) rfl; · (intro K hK; simp (disch := first | omega | decide) only [go_sem, f0, f8, f9, f10]; exact hK _))
  refine aops_nil ?_
  refine AW.seq ?_
  apply AW.cond
  ·(simp only [go_sem, f0, f8, f9, f10]; rfl)
  case hf => intro hb; (simp at hb; omega)
  case ht =>
  intro hb
  have hbt11 := hb
  refine AW.skip ?_
  refine AW.seq ?_
  refine AW.block ?_
  refine AW.sr (cfg := cfg) ?_
  iterate 3 (apply aops_step (by decide) rfl; · (intro K hK; simp (disch := first | omega | decide) only [go_sem, f0, f8, f9, f10, act_indexAddr_s u22 ti5, act_load_t ti5]; exact hK _))
  refine aops_nil ?_
  refine AW.sr (cfg := cfg) ?_
  iterate 5 (apply aops_step (by decide) rfl; · (intro K hK; simp (disch := first | omega | decide) only [go_sem, f0, f8, f9, f10, act_convI u5 u40]; exact hK _))
  refine aops_nil ?_
  refine AW.sr (cfg := cfg) ?_
  iterate 1 (apply aops_step (by decide) rfl; · (intro K hK; simp (disch := first | omega | decide) only [go_sem, f0, f8, f9, f10]; exact hK _))
  refine aops_nil ?_
  refine AW.block ?_
  refine AW.forN (fun j σ => ∃ s m, σ = ⟨31, s, m⟩ ∧ s 0 = .v (u32 (turns j (moreS r (l.take k) ^^^ (l[k]).setWidth 32))) ∧ s 8 = .v (.sl 1 nil (bsl l)) ∧ s 9 = .v (i64 l.length) ∧ s 10 = .v (i64 k) ∧ s 18 = .v (i64 j) ∧ m.G = []) (8) ?_ ?_ ?_
  ·refine ⟨_, _, rfl, ?_, ?_, ?_, ?_, ?_, (by exact hG)⟩ <;> try simp (disch := first | omega | decide) only [go_sem, f0, f8, f9, f10]
   all_goals rfl
  ·clear f0 f8 f9 f10 hG
   rintro j σ hj ⟨s, m, rfl, f0, f8, f9, f10, f18, hG⟩
   refine AW.sr (cfg := cfg) ?_
   iterate 1 (apply aops_step (by decide) rfl; · (intro K hK; simp (disch := first | omega | decide) only [go_sem, f0, f8, f9, f10, f18]; exact hK _))
   refine aops_nil ?_
   refine AW.seq ?_
   apply AW.cond
   ·(simp only [go_sem, f0, f8, f9, f10, f18]; rfl)
   case hf => intro hb; (simp at hb; omega)
   case ht =>
   intro hb
   have hbt19 := hb
   refine AW.skip ?_
   refine AW.seq ?_
   refine AW.block ?_
   refine AW.sr (cfg := cfg) ?_
   iterate 3 (apply aops_step (by decide) rfl; · (intro K hK; simp (disch := first | omega | decide) only [go_sem, f0, f8, f9, f10, f18]; exact hK _))
   refine aops_nil ?_
   refine AW.sr (cfg := cfg) ?_
   iterate 3 (apply aops_step (by decide) rfl; · (intro K hK; simp (disch := first | omega | decide) only [go_sem, f0, f8, f9, f10, f18]; exact hK _))
   refine aops_nil ?_
   refine AW.region (cfg := cfg) ?_
   iterate 5 (apply aops_step (by decide) rfl; · (intro K hK; simp (disch := first | omega | decide) only [go_sem, f0, f8, f9, f10, f18]; exact hK _))
   refine aops_nil ?_
   refine AW.region (cfg := cfg) ?_
   iterate 2 (apply aops_step (by decide) rfl; · (intro K hK; simp (disch := first | omega | decide) only [go_sem, f0, f8, f9, f10, f18]; exact hK _))
   refine aops_nil ?_
   refine ⟨_, _, rfl, ?_, ?_, ?_, ?_, ?_, (by exact hG)⟩ <;> try simp (disch := first | omega | decide) only [go_sem, f0, f8, f9, f10, f18]
   all_goals rfl
  ·clear f0 f8 f9 f10 hG
   rintro σ ⟨s, m, rfl, f0, f8, f9, f10, f18, hG⟩
   refine AW.sr (cfg := cfg) ?_
   iterate 1 (apply aops_step (by decide) rfl; · (intro K hK; simp (disch := first | omega | decide) only [go_sem, f0, f8, f9, f10, f18]; exact hK _))
   refine aops_nil ?_
   refine AW.seq ?_
   apply AW.cond
   ·(simp only [go_sem, f0, f8, f9, f10, f18]; rfl)
   case ht => intro hb; (simp at hb; done)
   case hf =>
   intro hb
   have hbt19 := hb
   refine AW.exit ?_
   refine AW.region (cfg := cfg) ?_
   iterate 2 (apply aops_step (by decide) rfl; · (intro K hK; simp (disch := first | omega | decide) only [go_sem, f0, f8, f9, f10, f18]; exact hK _))
   refine aops_nil ?_
   refine ⟨_, _, rfl, ?_, ?_, ?_, ?_, (by exact hG)⟩ <;> try simp (disch := first | omega | decide) only [go_sem, f0, f8, f9, f10, f18]
   ·rw [moreS_succ hk]
   all_goals rfl
 ·clear f0 f1 hG
  rintro σ ⟨s, m, rfl, f0, f8, f9, f10, hG⟩
  refine AW.sr (cfg := cfg) ?_
  iterate 1 (apply aops_step (by decide) rfl; · (intro K hK; simp (disch := first | omega | decide) only [go_sem, f0, f8, f9, f10]; exact hK _))
  refine aops_nil ?_
  refine AW.seq ?_
  apply AW.cond
  ·(simp only [go_sem, f0, f8, f9, f10]; rfl)
  case ht => intro hb; (simp at hb; done)
  case hf =>
  intro hb
  have hbt11 := hb
  refine AW.exit ?_
  refine AW.sr (cfg := cfg) ?_
  iterate 2 (apply aops_step (by decide) rfl; · (intro K hK; simp (disch := first | omega | decide) only [go_sem, f0, f8, f9, f10]; exact hK _))
  refine aops_nil ?_
  refine AW.ret ?_
  refine ⟨.inr rfl, ?_⟩
  refine leaves_tmp1 4 rfl ?_ hG
  simp (disch := first | omega | decide) only [go_sem, f0, f8, f9, f10]
  simp
theorem good_Of (nil : Bool) (ps : List (Bool × List (BitVec 8))) (hl : ps.length ≤ 9223372036854775807) (hp : ∀ p ∈ ps, p.2.length ≤ 9223372036854775807) : Good Try.prog 73 [(.sl 1 nil (ps.map pslice), false)] [] [(u32 (ofS ps), false)] [] := by
 refine good_of_body2 18 Try.func73 rfl rfl rfl (by simp) ?_
 intro s m ha hr hv hG
 have f0 : s 0 = .v (.sl 1 nil (ps.map pslice)) := ha 0 _ rfl
 clear ha
 refine AW.sr (cfg := cfg) ?_
 iterate 1 (apply aops_step (by decide) rfl; · (intro K hK; simp (disch := first | omega | decide) only [go_sem, f0]; exact hK _))
 refine aops_nil ?_
 refine AW.sr (cfg := cfg) ?_
 iterate 1 (apply aops_step (by decide) rfl; · (intro K hK; simp (disch := first | omega | decide) only [go_sem, f0]; exact hK _))
 refine aops_nil ?_
 refine AW.seq ?_
 refine AW.sr (cfg := cfg) ?_
 iterate 3 (apply aops_step (by decide) rfl; · (intro K hK; simp (disch := first | omega | decide) only [go_sem, f0, List.map, List.length_map, aops_len u47]; exact hK _))
 refine aops_nil ?_
 refine AW.block ?_
 refine AW.forN (fun k σ => ∃ s m, σ = ⟨18, s, m⟩ ∧ s 3 = .v (u32 (ofP k ps)) ∧ s 6 = .v (.sl 1 nil (ps.map pslice)) ∧ s 7 = .v (i64 ps.length) ∧ s 8 = .v (i64 k) ∧ m.G = []) (ps.length) ?_ ?_ ?_
 ·refine ⟨_, _, rfl, ?_, ?_, ?_, ?_, (by exact hG)⟩ <;> try simp (disch := first | omega | decide) only [go_sem, f0]
  all_goals rfl
 ·clear f0 hG
  rintro k σ hk ⟨s, m, rfl, f3, f6, f7, f8, hG⟩
  refine AW.sr (cfg := cfg) ?_
  iterate 1 (apply aops_step (by decide) rfl; · (intro K hK; simp (disch := first | omega | decide) only [go_sem, f3, f6, f7, f8]; exact hK _))
  refine aops_nil ?_
  refine AW.seq ?_
  apply AW.cond
  ·(simp only [go_sem, f3, f6, f7, f8]; rfl)
  case hf => intro hb; (simp at hb; omega)
  case ht =>
  intro hb
  have hbt9 := hb
  refine AW.skip ?_
  refine AW.seq ?_
  refine AW.block ?_
  refine AW.sr (cfg := cfg) ?_
  iterate 3 (apply aops_step (by decide) rfl; · (intro K hK; simp (disch := first | omega | decide) only [go_sem, f3, f6, f7, f8, act_indexAddr_s u47 ti22, act_load_t ti22]; exact hK _))
  refine aops_nil ?_
  refine AW.region (cfg := cfg) ?_
  iterate 2 (apply aops_step (by decide) rfl; · (intro K hK; simp (disch := first | omega | decide) only [go_sem, f3, f6, f7, f8]; exact hK _))
  apply aops_step (by decide) rfl
  ·intro K hK
   simp (disch := first | omega | decide) only [go_sem, f3, f6, f7, f8, act_call, List.map]
   apply mwp_call_s rfl rfl rfl
   ·intro Q hQ
    (simp (disch := first | omega | decide) only [go_sem, f3, f6, f7, f8, peekL, reifyL_nil, reifyL_cons, reify_v]; (exact hQ))
   ·exact good_more _ _ _ (hp _ (List.getElem_mem _))
   ·simp [-List.map_take, -List.map_drop, -List.map_append, -List.map_replicate, -List.reduceReplicate, noPtrL, noPtr, noPtrL_bsl, noPtrL_map, sub]
   ·rfl
   ·exact hK _
  iterate 1 (apply aops_step (by decide) rfl; · (intro K hK; simp (disch := first | omega | decide) only [go_sem, f3, f6, f7, f8]; exact hK _))
  refine aops_nil ?_
  refine AW.region (cfg := cfg) ?_
  iterate 2 (apply aops_step (by decide) rfl; · (intro K hK; simp (disch := first | omega | decide) only [go_sem, f3, f6, f7, f8]; exact hK _))
  refine aops_nil ?_
  refine ⟨_, _, rfl, ?_, ?_, ?_, ?_, (by exact hG)⟩ <;> try simp (disch := first | omega | decide) only [go_sem, f3, f6, f7, f8]
  ·rw [ofP_succ hk]
  all_goals rfl
 ·clear f0 hG
  rintro σ ⟨s, m, rfl, f3, f6, f7, f8, hG⟩
  refine AW.sr (cfg := cfg) ?_
  iterate 1 (apply aops_step (by decide) rfl; · (intro K hK; simp (disch := first | omega | decide) only [go_sem, f3, f6, f7, f8]; exact hK _))
  refine aops_nil ?_
  refine AW.seq ?_
  apply AW.cond
  ·(simp only [go_sem, f3, f6, f7, f8]; rfl)
  case ht => intro hb; (simp at hb; done)
  case hf =>
  intro hb
  have hbt9 := hb
  refine AW.exit ?_
  refine AW.sr (cfg := cfg) ?_
  iterate 3 (apply aops_step (by decide) rfl; · (intro K hK; simp (disch := first | omega | decide) only [go_sem, f3, f6, f7, f8]; exact hK _))
  refine aops_nil ?_
  refine AW.ret ?_
  refine ⟨.inr rfl, ?_⟩
  refine leaves_tmp1 2 rfl ?_ hG
  simp (disch := first | omega | decide) only [go_sem, f3, f6, f7, f8]
  rw [ofP_all]
theorem good_refOf (nil : Bool) (l : List (BitVec 8)) (hl : l.length ≤ 9223372036854775807) : Good Try.prog 95 [(.sl 1 nil (bsl l), false)] [] [(u32 (refS l), false)] [] := by
 refine good_of_body2 38 Try.func95 rfl rfl rfl (by simp) ?_
 intro s m ha hr hv hG
 have f0 : s 0 = .v (.sl 1 nil (bsl l)) := ha 0 _ rfl
 clear ha
 refine AW.sr (cfg := cfg) ?_
 iterate 1 (apply aops_step (by decide) rfl; · (intro K hK; simp (disch := first | omega | decide) only [go_sem, f0]; exact hK _))
 refine aops_nil ?_
 refine AW.sr (cfg := cfg) ?_
 iterate 1 (apply aops_step (by decide) rfl; · (intro K hK; simp (disch := first | omega | decide) only [go_sem, f0]; exact hK _))
 refine aops_nil ?_
 refine AW.seq ?_
 refine AW.sr (cfg := cfg) ?_
 iterate 1 (apply aops_step (by decide) rfl; · (intro K hK; simp (disch := first | omega | decide) only [go_sem, f0]; exact hK _))
 refine aops_nil ?_
 refine AW.block ?_
 refine AW.forN (fun k σ => ∃ s m, σ = ⟨38, s, m⟩ ∧ s 0 = .v (.sl 1 nil (bsl l)) ∧ s 3 = .v (u32 (refP k l)) ∧ s 4 = .v (i64 k) ∧ m.G = []) (l.length) ?_ ?_ ?_
 ·refine ⟨_, _, rfl, ?_, ?_, ?_, (by exact hG)⟩ <;> try simp (disch := first | omega | decide) only [go_sem, f0]
  all_goals rfl
 ·clear f0 hG
  rintro k σ hk ⟨s, m, rfl, f0, f3, f4, hG⟩
  refine AW.seq ?_
  refine AW.sr (cfg := cfg) ?_
  iterate 4 (apply aops_step (by decide) rfl; · (intro K hK; simp (disch := first | omega | decide) only [go_sem, f0, f3, f4, List.map, List.length_map, aops_len u22]; exact hK _))
  refine aops_nil ?_
  apply AW.cond
  ·(simp only [go_sem, f0, f3, f4]; rfl)
  case hf => intro hb; (simp at hb; omega)
  case ht =>
  intro hb
  have hbt11 := hb
  refine AW.skip ?_
  refine AW.seq ?_
  refine AW.block ?_
  refine AW.sr (cfg := cfg) ?_
  iterate 1 (apply aops_step (by decide) rfl; · (intro K hK; simp (disch := first | omega | decide) only [go_sem, f0, f3, f4]; exact hK _))
  refine aops_nil ?_
  refine AW.block ?_
  refine AW.forN (fun j σ => ∃ s m, σ = ⟨38, s, m⟩ ∧ s 0 = .v (.sl 1 nil (bsl l)) ∧ s 3 = .v (u32 (rbyte (l[k]) j (refP k l))) ∧ s 4 = .v (i64 k) ∧ s 5 = .v (i64 j) ∧ m.G = []) (8) ?_ ?_ ?_
  ·refine ⟨_, _, rfl, ?_, ?_, ?_, ?_, (by exact hG)⟩ <;> try simp (disch := first | omega | decide) only [go_sem, f0, f3, f4]
   all_goals rfl
  ·clear f0 f3 f4 hG
   rintro j σ hj ⟨s, m, rfl, f0, f3, f4, f5, hG⟩
   refine AW.seq ?_
   refine AW.sr (cfg := cfg) ?_
   iterate 2 (apply aops_step (by decide) rfl; · (intro K hK; simp (disch := first | omega | decide) only [go_sem, f0, f3, f4, f5]; exact hK _))
   refine aops_nil ?_
   apply AW.cond
   ·(simp only [go_sem, f0, f3, f4, f5]; rfl)
   case hf => intro hb; (simp at hb; omega)
   case ht =>
   intro hb
   have hbt15 := hb
   refine AW.skip ?_
   refine AW.seq ?_
   refine AW.block ?_
   refine AW.sr (cfg := cfg) ?_
   iterate 10 (apply aops_step (by decide) rfl; · (intro K hK; simp (disch := first | omega | decide) only [go_sem, f0, f3, f4, f5, act_indexAddr_s u22 ti5, act_load_t ti5, act_convI u5 u40, act_convI u3 u42]; exact hK _))
   refine aops_nil ?_
   refine AW.sr (cfg := cfg) ?_
   iterate 3 (apply aops_step (by decide) rfl; · (intro K hK; simp (disch := first | omega | decide) only [go_sem, f0, f3, f4, f5]; exact hK _))
   refine aops_nil ?_
   refine AW.sr (cfg := cfg) ?_
   iterate 3 (apply aops_step (by decide) rfl; · (intro K hK; simp (disch := first | omega | decide) only [go_sem, f0, f3, f4, f5]; exact hK _))
   refine aops_nil ?_
   refine AW.sr (cfg := cfg) ?_
   iterate 3 (apply aops_step (by decide) rfl; · (intro K hK; simp (disch := first | omega | decide) only [go_sem, f0, f3, f4, f5]; exact hK _))
   refine aops_nil ?_
   apply AW.cond
   ·(simp only [go_sem, f0, f3, f4, f5]; rfl)
   case ht =>
    intro hb
    try simp only [bo1, bo2, bo3, bo4, bo5, bo6] at hb
    have hbt33 := hb
    refine AW.region (cfg := cfg) ?_
    iterate 3 (apply aops_step (by decide) rfl; · (intro K hK; simp (disch := first | omega | decide) only [go_sem, f0, f3, f4, f5]; exact hK _))
    refine aops_nil ?_
    refine AW.region (cfg := cfg) ?_
    iterate 3 (apply aops_step (by decide) rfl; · (intro K hK; simp (disch := first | omega | decide) only [go_sem, f0, f3, f4, f5]; exact hK _))
    refine aops_nil ?_
    refine ⟨_, _, rfl, ?_, ?_, ?_, ?_, (by exact hG)⟩ <;> try simp (disch := first | omega | decide) only [go_sem, f0, f3, f4, f5]
    ·rw [two32] at hb
     rcases Classical.em (((l[k]).setWidth 32 >>> j) % 2#32 = rbyte (l[k]) j (refP k l) % 2#32) with h | h
     ·exact absurd (congrArg (fun z : BitVec 32 => (z.toNat : Int)) h) hb
     ·(rw [rbyte, rstep, if_pos h]; rfl)
    all_goals rfl
   case hf =>
    intro hb
    try simp only [bo1, bo2, bo3, bo4, bo5, bo6] at hb
    have hbt33 := hb
    refine AW.skip ?_
    refine AW.region (cfg := cfg) ?_
    iterate 3 (apply aops_step (by decide) rfl; · (intro K hK; simp (disch := first | omega | decide) only [go_sem, f0, f3, f4, f5]; exact hK _))
    refine aops_nil ?_
    refine ⟨_, _, rfl, ?_, ?_, ?_, ?_, (by exact hG)⟩ <;> try simp (disch := first | omega | decide) only [go_sem, f0, f3, f4, f5]
    ·rw [two32] at hb
     rcases Classical.em (((l[k]).setWidth 32 >>> j) % 2#32 = rbyte (l[k]) j (refP k l) % 2#32) with h | h
     ·(rw [rbyte, rstep, if_neg (fun c => c h)]; rfl)
     ·exact absurd (BitVec.eq_of_toNat_eq (by omega)) h
    all_goals rfl
  ·clear f0 f3 f4 hG
   rintro σ ⟨s, m, rfl, f0, f3, f4, f5, hG⟩
   refine AW.seq ?_
   refine AW.sr (cfg := cfg) ?_
   iterate 2 (apply aops_step (by decide) rfl; · (intro K hK; simp (disch := first | omega | decide) only [go_sem, f0, f3, f4, f5]; exact hK _))
   refine aops_nil ?_
   apply AW.cond
   ·(simp only [go_sem, f0, f3, f4, f5]; rfl)
   case ht => intro hb; (simp at hb; done)
   case hf =>
   intro hb
   have hbt15 := hb
   refine AW.exit ?_
   refine AW.region (cfg := cfg) ?_
   iterate 3 (apply aops_step (by decide) rfl; · (intro K hK; simp (disch := first | omega | decide) only [go_sem, f0, f3, f4, f5]; exact hK _))
   refine aops_nil ?_
   refine ⟨_, _, rfl, ?_, ?_, ?_, (by exact hG)⟩ <;> try simp (disch := first | omega | decide) only [go_sem, f0, f3, f4, f5]
   ·rw [refP_succ hk]
   all_goals rfl
 ·clear f0 hG
  rintro σ ⟨s, m, rfl, f0, f3, f4, hG⟩
  refine AW.seq ?_
  refine AW.sr (cfg := cfg) ?_
  iterate 4 (apply aops_step (by decide) rfl; · (intro K hK; simp (disch := first | omega | decide) only [go_sem, f0, f3, f4, List.map, List.length_map, aops_len u22]; exact hK _))
  refine aops_nil ?_
  apply AW.cond
  ·(simp only [go_sem, f0, f3, f4]; rfl)
  case ht => intro hb; (simp at hb; done)
  case hf =>
  intro hb
  have hbt11 := hb
  refine AW.exit ?_
  refine AW.sr (cfg := cfg) ?_
  iterate 3 (apply aops_step (by decide) rfl; · (intro K hK; simp (disch := first | omega | decide) only [go_sem, f0, f3, f4]; exact hK _))
  refine aops_nil ?_
  refine AW.ret ?_
  refine ⟨.inr rfl, ?_⟩
  refine leaves_tmp1 2 rfl ?_ hG
  simp (disch := first | omega | decide) only [go_sem, f0, f3, f4]
  simp [refS, refP]
end Go.Vai.U
