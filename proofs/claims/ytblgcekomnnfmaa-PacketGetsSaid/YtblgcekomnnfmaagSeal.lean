import Derived.Test.YtblgcekomnnfmaagChk
import Derived.Test.YtblgcekomnnfmaagOct
namespace Go.Vai.Z
open Go.Proofs Go.Vai Go.Vai.O Go.Vai.U
set_option linter.unusedSimpArgs false
set_option linter.unusedVariables false
set_option maxHeartbeats 4000000
set_option maxRecDepth 100000
open Go.Vai.U (ofS refS pslice ref_of)
def ckB (x : BitVec 32) : List (BitVec 8) := [(x >>> 24).setWidth 8, (x >>> 16).setWidth 8, (x >>> 8).setWidth 8, x.setWidth 8]
def ckR (x : BitVec 32) : List (BitVec 8) := [(x / 16777216#32).setWidth 8, (x / 65536#32 % 256#32).setWidth 8, (x / 256#32 % 256#32).setWidth 8, (x % 256#32).setWidth 8]
theorem ckR_ckB (x : BitVec 32) : ckR x = ckB x := by
  have hx := x.isLt
  simp only [ckR, ckB, List.cons.injEq, and_true]
  refine ⟨?_, ?_, ?_, ?_⟩ <;> (apply BitVec.eq_of_toNat_eq; simp [Nat.shiftRight_eq_div_pow] <;> omega)
theorem ckB_len (x : BitVec 32) : (ckB x).length = 4 := rfl
def sealS (l : List (BitVec 8)) : List (BitVec 8) := l ++ ckB (refS l)
theorem sealS_len (l : List (BitVec 8)) : (sealS l).length = l.length + 4 := by simp [sealS, ckB_len]
def cat (ps : List (Bool × List (BitVec 8))) : List (BitVec 8) := ps.flatMap (·.2)
theorem cat_succ {ps : List (Bool × List (BitVec 8))} {k : Nat} (h : k < ps.length) : cat (ps.take (k + 1)) = cat (ps.take k) ++ ps[k].2 := by
  rw [List.take_succ_eq_append_getElem h]; simp only [cat, List.flatMap_append, List.flatMap_cons, List.flatMap_nil, List.append_nil]
theorem cat_le {ps : List (Bool × List (BitVec 8))} (k : Nat) : (cat (ps.take k)).length ≤ (cat ps).length := by
  have : cat ps = cat (ps.take k) ++ cat (ps.drop k) := by rw [cat, cat, cat, ← List.flatMap_append, List.take_append_drop]
  rw [this]; simp
theorem cat_get {ps : List (Bool × List (BitVec 8))} {k : Nat} (h : k < ps.length) : (ps[k].2).length ≤ (cat ps).length := by
  have h1 := cat_le (ps := ps) (k + 1)
  rw [cat_succ h] at h1
  simp at h1; omega
theorem flag_step {ps : List (Bool × List (BitVec 8))} {b : List (BitVec 8)} (h : b.length ≤ (cat ps).length) : (!decide (((cat ps).length : Int) > 0) && (bsl b).isEmpty) = !decide (((cat ps).length : Int) > 0) := by
  by_cases hp : 0 < (cat ps).length
  · simp [hp]
  · have : b = [] := List.eq_nil_of_length_eq_zero (by omega)
    subst this; simp
theorem len0 : ((([] : List AV).length : Nat) : Int) = 0 := rfl
theorem cellsOf_psl (p : Bool × List (BitVec 8)) : cellsOf (pslice p) = [.sl 1 p.1 (bsl p.2)] := rfl
theorem good_bytes (x : BitVec 32) : Good Try.prog 72 [(u32 x, false)] [] [(.sl 1 false (bsl (ckB x)), false)] [] := by
 refine good_of_body2 15 Try.func72 rfl rfl rfl (by simp) ?_
 intro s m ha hr hv hG
 have f0 : s 0 = .v (u32 x) := ha 0 _ rfl
 clear ha
 refine AW.sr (cfg := cfg) ?_
 iterate 1 (apply aops_step (by decide) rfl; · (intro K hK; simp (disch := first | omega | decide) only [go_sem, f0, sz22, Int.reduceToNat]; exact hK _))
 refine aops_nil ?_
 refine AW.sr (cfg := cfg) ?_
 iterate 11 (apply aops_step (by decide) rfl; · (intro K hK; simp (disch := first | omega | decide) only [go_sem, f0, act_convI u40 u5, Int.reduceToNat]; exact hK _))
 apply aops_step (by decide) rfl
 ·intro K hK
  rw [act_bs el22 ti5]
  (simp [-List.map_take, -List.map_drop, -BitVec.toNat_ofInt, -BitVec.ofInt_natCast, -BitVec.toNat_setWidth, -BitVec.toNat_ushiftRight, -BitVec.toNat_umod, -BitVec.toNat_udiv, go_sem, elems_v, cellishAV, Value.oneCell', isAggAV, partsOf, TI.z, TI.mk1, f0]; exact hK _)
 apply aops_step (by decide) rfl
 ·intro K hK
  simp (disch := first | omega | decide) only [go_sem, f0, Int.reduceToNat]
  rw [asg_tmp (by simp (disch := first | omega | decide) only [go_sem, f0, Int.reduceToNat]; rfl)]
  exact hK _
 refine aops_nil ?_
 refine AW.ret ?_
 refine ⟨.inr rfl, ?_⟩
 refine leaves_frz1 2 rfl (by simp (disch := first | omega | decide) only [go_sem, f0, Int.reduceToNat] <;> rfl) (by simp (disch := first | omega | decide) only [go_sem, f0, Int.reduceToNat] <;> rfl) (by simp [sub, ckB]) (by exact hG)
theorem good_Equal (na nb : Bool) (a b : List (BitVec 8)) (ha : a.length ≤ 9223372036854775807) (hb : b.length ≤ 9223372036854775807) : Good Try.prog 71 [(.sl 1 na (bsl a), false), (.sl 1 nb (bsl b), false)] [] [(.b (decide (a = b)), false)] [] := by
 refine good_of_body2 26 Try.func71 rfl rfl rfl (by simp) ?_
 intro s m ha hr hv hG
 have f0 : s 0 = .v (.sl 1 na (bsl a)) := ha 0 _ rfl
 have f1 : s 1 = .v (.sl 1 nb (bsl b)) := ha 1 _ rfl
 clear ha
 refine AW.sr (cfg := cfg) ?_
 iterate 1 (apply aops_step (by decide) rfl; · (intro K hK; simp (disch := first | omega | decide) only [go_sem, f0, f1]; exact hK _))
 refine aops_nil ?_
 refine AW.seq ?_
 refine AW.sr (cfg := cfg) ?_
 iterate 5 (apply aops_step (by decide) rfl; · (intro K hK; simp (disch := first | omega | decide) only [go_sem, f0, f1, List.map, List.length_map, aops_len u22]; exact hK _))
 refine aops_nil ?_
 apply AW.cond
 ·(simp only [go_sem, f0, f1]; rfl)
 case ht =>
  intro hb
  try simp only [bo1, bo2, bo3, bo4, bo5, bo6] at hb
  have hbt10 := hb
  refine AW.sr (cfg := cfg) ?_
  iterate 1 (apply aops_step (by decide) rfl; · (intro K hK; simp (disch := first | omega | decide) only [go_sem, f0, f1]; exact hK _))
  refine aops_nil ?_
  refine AW.ret ?_
  refine ⟨.inr rfl, ?_⟩
  refine leaves_tmp1 4 rfl ?_ (by exact hG)
  simp (disch := first | omega | decide) only [go_sem, f0, f1]
  all_goals (rw [decide_eq_false (fun e => by subst e; simp at hb)]; done)
 case hf =>
  intro hb
  try simp only [bo1, bo2, bo3, bo4, bo5, bo6] at hb
  have hbt10 := hb
  refine AW.skip ?_
  refine AW.seq ?_
  refine AW.sr (cfg := cfg) ?_
  iterate 3 (apply aops_step (by decide) rfl; · (intro K hK; simp (disch := first | omega | decide) only [go_sem, f0, f1, List.map, List.length_map, aops_len u22]; exact hK _))
  refine aops_nil ?_
  refine AW.block ?_
  refine AW.forN (fun k σ => ∃ s m, σ = ⟨26, s, m⟩ ∧ s 0 = .v (.sl 1 na (bsl a)) ∧ s 1 = .v (.sl 1 nb (bsl b)) ∧ s 12 = .v (i64 (a.length : Int)) ∧ s 13 = .v (i64 (k : Int)) ∧ (a.length = b.length) ∧ (a.take k = b.take k) ∧ m.G = []) (a.length) ?_ ?_ ?_
  ·refine ⟨_, _, rfl, ?_, ?_, ?_, ?_, ?_, ?_, (by exact hG)⟩ <;> try simp (disch := first | omega | decide) only [go_sem, f0, f1]
   all_goals first | rfl | omega
  ·clear f0 f1 hG
   rintro k σ hk ⟨s, m, rfl, f0, f1, f12, f13, mo0, mo1, hG⟩
   refine AW.sr (cfg := cfg) ?_
   iterate 1 (apply aops_step (by decide) rfl; · (intro K hK; simp (disch := first | omega | decide) only [go_sem, f0, f1, f12, f13]; exact hK _))
   refine aops_nil ?_
   refine AW.seq ?_
   apply AW.cond
   ·(simp only [go_sem, f0, f1, f12, f13]; rfl)
   case hf => intro hb; (simp at hb; omega)
   case ht =>
   intro hb
   have hbt14 := hb
   refine AW.skip ?_
   refine AW.seq ?_
   refine AW.block ?_
   refine AW.sr (cfg := cfg) ?_
   iterate 2 (apply aops_step (by decide) rfl; · (intro K hK; simp (disch := first | omega | decide) only [go_sem, f0, f1, f12, f13]; exact hK _))
   refine aops_nil ?_
   refine AW.seq ?_
   refine AW.draw (cfg := cfg) (by kernel_rfl) (by kernel_rfl) (by kernel_rfl) ?_
   iterate 2 (apply adraw_step rfl; · (intro K hK; simp (disch := first | omega | decide) only [go_sem, f0, f1, f12, f13]; exact hK))
   apply adraw_step rfl
   ·intro K hK
    simp (disch := first | omega | decide) only [go_sem, f0, f1, f12, f13, act_indexAddr_s u22 ti5, List.map]
    skip
    exact hK
   apply adraw_step rfl
   ·intro K hK
    simp (disch := first | omega | decide) only [go_sem, f0, f1, f12, f13, act_load_t ti5, List.map]
    skip
    exact hK
   iterate 2 (apply adraw_step rfl; · (intro K hK; simp (disch := first | omega | decide) only [go_sem, f0, f1, f12, f13]; exact hK))
   apply adraw_step rfl
   ·intro K hK
    simp (disch := first | omega | decide) only [go_sem, f0, f1, f12, f13, act_indexAddr_s u22 ti5, List.map]
    skip
    exact hK
   apply adraw_step rfl
   ·intro K hK
    simp (disch := first | omega | decide) only [go_sem, f0, f1, f12, f13, act_load_t ti5, List.map]
    skip
    exact hK
   iterate 1 (apply adraw_step rfl; · (intro K hK; simp (disch := first | omega | decide) only [go_sem, f0, f1, f12, f13]; exact hK))
   refine adraw_nil (by kernel_rfl) ?_
   apply AW.cond
   ·(simp only [go_sem, f0, f1, f12, f13]; rfl)
   case ht =>
    intro hb
    try simp only [bo1, bo2, bo3, bo4, bo5, bo6] at hb
    have hbt24 := hb
    refine AW.sr (cfg := cfg) ?_
    iterate 1 (apply aops_step (by decide) rfl; · (intro K hK; simp (disch := first | omega | decide) only [go_sem, f0, f1, f12, f13]; exact hK _))
    refine aops_nil ?_
    refine AW.ret ?_
    refine ⟨.inr rfl, ?_⟩
    refine leaves_tmp1 4 rfl ?_ (by exact hG)
    simp (disch := first | omega | decide) only [go_sem, f0, f1, f12, f13]
    all_goals (rw [decide_eq_false (fun e => by subst e; simp at hb)]; done)
   case hf =>
    intro hb
    try simp only [bo1, bo2, bo3, bo4, bo5, bo6] at hb
    have hbt24 := hb
    refine AW.skip ?_
    refine AW.region (cfg := cfg) ?_
    iterate 2 (apply aops_step (by decide) rfl; · (intro K hK; simp (disch := first | omega | decide) only [go_sem, f0, f1, f12, f13]; exact hK _))
    refine aops_nil ?_
    refine ⟨_, _, rfl, ?_, ?_, ?_, ?_, ?_, ?_, (by exact hG)⟩ <;> try simp (disch := first | omega | decide) only [go_sem, f0, f1, f12, f13]
    all_goals first | rfl | assumption | skip
    all_goals (rw [List.take_succ_eq_append_getElem (by omega), List.take_succ_eq_append_getElem (by omega), mo1]; congr 2; apply BitVec.eq_of_toNat_eq; simp at hb; omega)
  ·clear f0 f1 hG
   rintro σ ⟨s, m, rfl, f0, f1, f12, f13, mo0, mo1, hG⟩
   refine AW.sr (cfg := cfg) ?_
   iterate 1 (apply aops_step (by decide) rfl; · (intro K hK; simp (disch := first | omega | decide) only [go_sem, f0, f1, f12, f13]; exact hK _))
   refine aops_nil ?_
   refine AW.seq ?_
   apply AW.cond
   ·(simp only [go_sem, f0, f1, f12, f13]; rfl)
   case ht => intro hb; (simp at hb; done)
   case hf =>
   intro hb
   have hbt14 := hb
   refine AW.exit ?_
   refine AW.sr (cfg := cfg) ?_
   iterate 1 (apply aops_step (by decide) rfl; · (intro K hK; simp (disch := first | omega | decide) only [go_sem, f0, f1, f12, f13]; exact hK _))
   refine aops_nil ?_
   refine AW.ret ?_
   refine ⟨.inr rfl, ?_⟩
   refine leaves_tmp1 4 rfl ?_ (by exact hG)
   simp (disch := first | omega | decide) only [go_sem, f0, f1, f12, f13]
   all_goals (rw [decide_eq_true (by rw [List.take_length, mo0, List.take_length] at mo1; exact mo1)]; done)
theorem good_Grow (n : Int) (hn : 0 ≤ n ∧ n ≤ 140737488355328) : Good Try.prog 98 [(.sl 0 true [], false), (i64 n, false)] [] [(.sl 1 (!decide (n > 0)) (bsl []), true)] [] := by
 refine good_of_body3 27 Try.func98 rfl rfl rfl (by simp) ?_
 intro s m ha hr hv hG
 have f0 : s 0 = .v (.sl 0 true []) := ha 0 _ rfl
 have f1 : s 1 = .v (i64 n) := ha 1 _ rfl
 clear ha
 refine AW.sr (cfg := cfg4) ?_
 iterate 1 (apply aops_step (by decide) rfl; · (intro K hK; simp (disch := first | omega | decide) only [go_sem, f0, f1, sz22, Int.sub_zero, Int.sub_self, aops_cap_nil u22, len0]; exact hK _))
 refine aops_nil ?_
 refine AW.seq ?_
 refine AW.sr (cfg := cfg4) ?_
 iterate 2 (apply aops_step (by decide) rfl; · (intro K hK; simp (disch := first | omega | decide) only [go_sem, f0, f1, Int.sub_zero, Int.sub_self, aops_cap_nil u22, len0]; exact hK _))
 refine aops_nil ?_
 apply AW.cond
 ·(simp only [go_sem, f0, f1, Int.sub_zero, Int.sub_self, aops_cap_nil u22, len0]; rfl)
 case ht => intro hb; (simp at hb; omega)
 case hf =>
 intro hb
 have hbt6 := hb
 refine AW.skip ?_
 refine AW.seq ?_
 refine AW.sr (cfg := cfg4) ?_
 iterate 8 (apply aops_step (by decide) rfl; · (intro K hK; simp (disch := first | omega | decide) only [go_sem, f0, f1, List.map, List.length_map, aops_len u22, Int.sub_zero, Int.sub_self, aops_cap_nil u22, len0]; exact hK _))
 refine aops_nil ?_
 refine AW.sr (cfg := cfg4) ?_
 iterate 2 (apply aops_step (by decide) rfl; · (intro K hK; simp (disch := first | omega | decide) only [go_sem, f0, f1, Int.sub_zero, Int.sub_self, aops_cap_nil u22, len0]; exact hK _))
 refine aops_nil ?_
 apply AW.cond
 ·(simp only [go_sem, f0, f1, Int.sub_zero, Int.sub_self, aops_cap_nil u22, len0]; rfl)
 case ht =>
  intro hb
  try simp only [bo1, bo2, bo3, bo4, bo5, bo6] at hb
  have hbt16 := hb
  have er : (List.replicate n.toNat (AV.base (Value.int IntKind.u8 0))).isEmpty = false := by (cases hq : n.toNat with | zero => omega | succ q => simp [List.replicate_succ])
  refine AW.region (cfg := cfg4) ?_
  iterate 5 (apply aops_step (by decide) rfl; · (intro K hK; simp (disch := first | omega | decide) only [go_sem, f0, f1, er, act_slice_s u22 ti5, Int.sub_zero, Int.sub_self, aops_cap_nil u22, len0]; exact hK _))
  apply aops_step (by decide) rfl
  ·intro K hK
   simp (disch := first | omega | decide) only [go_sem, f0, f1, er, List.map, Int.sub_zero, Int.sub_self, aops_cap_nil u22, len0]
   (apply mwp_append0N el22 ti5 u3 (by simp [roomB]; omega) rfl)
   exact hK _
  iterate 2 (apply aops_step (by decide) rfl; · (intro K hK; simp (disch := first | omega | decide) only [go_sem, f0, f1, er, List.map, List.length_map, aops_len u22, Int.sub_zero, Int.sub_self, aops_cap_nil u22, len0]; exact hK _))
  apply aops_step (by decide) rfl
  ·intro K hK
   simp (disch := first | omega | decide) only [go_sem, f0, f1, er, act_slice_s u22 ti5, List.map, Int.sub_zero, Int.sub_self, aops_cap_nil u22, len0]
   rw [mwp_aSlice_own0 (by simp (disch := first | omega | decide) only [go_sem, f0, f1, er, List.map, Int.sub_zero, Int.sub_self, aops_cap_nil u22, len0]; rfl)]; exact hK _
  apply aops_step (by decide) rfl
  ·intro K hK
   simp (disch := first | omega | decide) only [go_sem, f0, f1, er, Int.sub_zero, Int.sub_self, aops_cap_nil u22, len0]
   rw [asg_tmp (by simp (disch := first | omega | decide) only [go_sem, f0, f1, er, Int.sub_zero, Int.sub_self, aops_cap_nil u22, len0]; rfl)]
   exact hK _
  refine aops_nil ?_
  refine AW.sr (cfg := cfg4) ?_
  iterate 1 (apply aops_step (by decide) rfl; · (intro K hK; simp (disch := first | omega | decide) only [go_sem, f0, f1, er, Int.sub_zero, Int.sub_self, aops_cap_nil u22, len0]; exact hK _))
  apply aops_step (by decide) rfl
  ·intro K hK
   simp (disch := first | omega | decide) only [go_sem, f0, f1, er, Int.sub_zero, Int.sub_self, aops_cap_nil u22, len0]
   rw [asg_mv (by rfl) (by decide) (by simp (disch := first | omega | decide) only [go_sem, f0, f1, er, Int.sub_zero, Int.sub_self, aops_cap_nil u22, len0] <;> rfl)]
   exact hK _
  refine aops_nil ?_
  refine AW.ret ?_
  refine ⟨.inr rfl, ?_⟩
  (have e0 : (!decide (n > 0)) = false := (by simp; omega); rw [e0]; refine leavesN (leaves_own1 4 rfl (by simp (disch := first | omega | decide) only [go_sem, f0, f1, er, Int.sub_zero, Int.sub_self, aops_cap_nil u22, len0] <;> rfl) (by simp (disch := first | omega | decide) only [go_sem, f0, f1, er, Int.sub_zero, Int.sub_self, aops_cap_nil u22, len0] <;> rfl) (by decide) (by simp [sub]) (by exact hG)))
 case hf =>
  intro hb
  try simp only [bo1, bo2, bo3, bo4, bo5, bo6] at hb
  have hbt16 := hb
  refine AW.skip ?_
  refine AW.sr (cfg := cfg4) ?_
  iterate 1 (apply aops_step (by decide) rfl; · (intro K hK; simp (disch := first | omega | decide) only [go_sem, f0, f1, Int.sub_zero, Int.sub_self, aops_cap_nil u22, len0]; exact hK _))
  apply aops_step (by decide) rfl
  ·intro K hK
   simp (disch := first | omega | decide) only [go_sem, f0, f1, Int.sub_zero, Int.sub_self, aops_cap_nil u22, len0]
   skip
   exact hK _
  refine aops_nil ?_
  refine AW.ret ?_
  refine ⟨.inr rfl, ?_⟩
  (have e0 : (!decide (n > 0)) = true := (by simp; omega); rw [e0]; refine ⟨_, nilEq_nil (s := 0) (nilEq_refl _), ?_⟩; refine leaves_mwp2 (rs := [.tmp 4]) rfl ?_; simp [giveL, srcOne, upd, giveOne, readL, readOne, Mwp, M.bind, opn, hG])
theorem good_Concat (np : Bool) (ps : List (Bool × List (BitVec 8))) (hl : ps.length ≤ 9223372036854775807) (hc : (cat ps).length ≤ 140737488355328) : Good Try.prog 81 [(.sl 1 np (ps.map pslice), false)] [] [(.sl 1 (!decide (((cat ps).length : Int) > 0)) (bsl (cat ps)), true)] [] := by
 refine good_of_body2 36 Try.func81 rfl rfl rfl (by simp) ?_
 intro s m ha hr hv hG
 have f0 : s 0 = .v (.sl 1 np (ps.map pslice)) := ha 0 _ rfl
 clear ha
 refine AW.sr (cfg := cfg2) ?_
 iterate 1 (apply aops_step (by decide) rfl; · (intro K hK; simp (disch := first | omega | decide) only [go_sem, f0, sz22, cellsOf_psl, List.length_nil]; exact hK _))
 refine aops_nil ?_
 refine AW.sr (cfg := cfg2) ?_
 iterate 1 (apply aops_step (by decide) rfl; · (intro K hK; simp (disch := first | omega | decide) only [go_sem, f0, cellsOf_psl, List.length_nil]; exact hK _))
 refine aops_nil ?_
 refine AW.seq ?_
 refine AW.sr (cfg := cfg2) ?_
 iterate 3 (apply aops_step (by decide) rfl; · (intro K hK; simp (disch := first | omega | decide) only [go_sem, f0, List.map, List.length_map, aops_len u47, cellsOf_psl, List.length_nil]; exact hK _))
 refine aops_nil ?_
 refine AW.block ?_
 refine AW.forN (fun k σ => ∃ s m, σ = ⟨36, s, m⟩ ∧ s 3 = .v (i64 ((cat (ps.take k)).length : Int)) ∧ s 9 = .v (.sl 1 np (ps.map pslice)) ∧ s 10 = .v (i64 (ps.length : Int)) ∧ s 11 = .v (i64 (k : Int)) ∧ s 0 = .v (.sl 1 np (ps.map pslice)) ∧ (∀ i, (m.objs (.res i)).2 = .dead) ∧ m.G = []) (ps.length) ?_ ?_ ?_
 ·refine ⟨_, _, rfl, ?_, ?_, ?_, ?_, ?_, (by intro i; simp [Mem.set, hr]), (by exact hG)⟩ <;> try simp (disch := first | omega | decide) only [go_sem, f0, cellsOf_psl, List.length_nil]
  all_goals rfl
 ·clear f0 hr hG
  rintro k σ hk ⟨s, m, rfl, f3, f9, f10, f11, f0, hr, hG⟩
  refine AW.sr (cfg := cfg2) ?_
  iterate 1 (apply aops_step (by decide) rfl; · (intro K hK; simp (disch := first | omega | decide) only [go_sem, f3, f9, f10, f11, f0, cellsOf_psl, List.length_nil]; exact hK _))
  refine aops_nil ?_
  refine AW.seq ?_
  apply AW.cond
  ·(simp only [go_sem, f3, f9, f10, f11, f0, cellsOf_psl, List.length_nil]; rfl)
  case hf => intro hb; (simp at hb; omega)
  case ht =>
  intro hb
  have hbt12 := hb
  refine AW.skip ?_
  refine AW.seq ?_
  refine AW.block ?_
  refine AW.sr (cfg := cfg2) ?_
  apply aops_step (by decide) rfl
  ·intro K hK
   simp (disch := first | omega | decide) only [go_sem, f3, f9, f10, f11, f0, act_indexAddr_s u47 ti22, List.map, cellsOf_psl, List.length_nil]
   skip
   exact hK _
  apply aops_step (by decide) rfl
  ·intro K hK
   simp (disch := first | omega | decide) only [go_sem, f3, f9, f10, f11, f0, act_load_t ti22, List.map, cellsOf_psl, List.length_nil]
   skip
   exact hK _
  iterate 1 (apply aops_step (by decide) rfl; · (intro K hK; simp (disch := first | omega | decide) only [go_sem, f3, f9, f10, f11, f0, cellsOf_psl, List.length_nil]; exact hK _))
  refine aops_nil ?_
  refine AW.seq ?_
  have hg := cat_get hk
  have hle := cat_le (ps := ps) k
  have hle2 := cat_le (ps := ps) (k + 1)
  have hcs := cat_succ hk
  refine AW.region (cfg := cfg2) ?_
  iterate 5 (apply aops_step (by decide) rfl; · (intro K hK; simp (disch := first | omega | decide) only [go_sem, f3, f9, f10, f11, f0, List.map, List.length_map, aops_len u22, cellsOf_psl, List.length_nil]; exact hK _))
  refine aops_nil ?_
  refine AW.sr (cfg := cfg2) ?_
  iterate 2 (apply aops_step (by decide) rfl; · (intro K hK; simp (disch := first | omega | decide) only [go_sem, f3, f9, f10, f11, f0, cellsOf_psl, List.length_nil]; exact hK _))
  refine aops_nil ?_
  apply AW.cond
  ·(simp only [go_sem, f3, f9, f10, f11, f0, cellsOf_psl, List.length_nil]; rfl)
  case ht => intro hb; (simp at hb; omega)
  case hf =>
  intro hb
  have hbt20 := hb
  refine AW.skip ?_
  refine AW.region (cfg := cfg2) ?_
  iterate 2 (apply aops_step (by decide) rfl; · (intro K hK; simp (disch := first | omega | decide) only [go_sem, f3, f9, f10, f11, f0, cellsOf_psl, List.length_nil]; exact hK _))
  refine aops_nil ?_
  refine ⟨_, _, rfl, ?_, ?_, ?_, ?_, ?_, (by intro i; simp [Mem.set, hr]), (by exact hG)⟩ <;> try simp (disch := first | omega | decide) only [go_sem, f3, f9, f10, f11, f0, cellsOf_psl, List.length_nil]
  all_goals first | rfl | (rw [cat_succ hk]; simp; done)
 ·clear f0 hr hG
  rintro σ ⟨s, m, rfl, f3, f9, f10, f11, f0, hr, hG⟩
  refine AW.sr (cfg := cfg2) ?_
  iterate 1 (apply aops_step (by decide) rfl; · (intro K hK; simp (disch := first | omega | decide) only [go_sem, f3, f9, f10, f11, f0, cellsOf_psl, List.length_nil]; exact hK _))
  refine aops_nil ?_
  refine AW.seq ?_
  apply AW.cond
  ·(simp only [go_sem, f3, f9, f10, f11, f0, cellsOf_psl, List.length_nil]; rfl)
  case ht => intro hb; (simp at hb; done)
  case hf =>
  intro hb
  have hbt12 := hb
  refine AW.exit ?_
  refine AW.seq ?_
  have e9 : cat (ps.take ps.length) = cat ps := by rw [List.take_length]
  refine AW.region (cfg := cfg2) ?_
  iterate 1 (apply aops_step (by decide) rfl; · (intro K hK; simp (disch := first | omega | decide) only [go_sem, f3, f9, f10, f11, f0, e9, cellsOf_psl, List.length_nil]; exact hK _))
  apply aops_step (by decide) rfl
  ·intro K hK
   simp (disch := first | omega | decide) only [go_sem, f3, f9, f10, f11, f0, e9, act_call, List.map, cellsOf_psl, List.length_nil]
   apply mwp_call_r rfl rfl rfl
   ·intro Q hQ
    (simp (disch := first | omega | decide) only [go_sem, f3, f9, f10, f11, f0, e9, peekL, reifyL_nil, reifyL_cons, reify_v, cellsOf_psl, List.length_nil]; (exact hQ))
   ·exact good_Grow _ (by omega)
   ·simp [-List.map_take, -List.map_drop, -List.map_append, -List.map_replicate, -List.reduceReplicate, noPtrL, noPtr, noPtrL_bsl, noPtrL_map, sub]
   ·rw [resOf_own1 (by (simp (disch := decide) only [mset_ne, hr]; done))]
    exact hK _
  apply aops_step (by decide) rfl
  ·intro K hK
   simp (disch := first | omega | decide) only [go_sem, f3, f9, f10, f11, f0, e9, cellsOf_psl, List.length_nil]
   rw [asg_tmp (by simp (disch := first | omega | decide) only [go_sem, f3, f9, f10, f11, f0, e9, cellsOf_psl, List.length_nil]; rfl)]
   exact hK _
  refine aops_nil ?_
  refine AW.seq ?_
  refine AW.sr (cfg := cfg2) ?_
  iterate 3 (apply aops_step (by decide) rfl; · (intro K hK; simp (disch := first | omega | decide) only [go_sem, f3, f9, f10, f11, f0, e9, List.map, List.length_map, aops_len u47, cellsOf_psl, List.length_nil]; exact hK _))
  refine aops_nil ?_
  refine AW.block ?_
  refine AW.forN (fun k σ => ∃ s m, σ = ⟨36, s, m⟩ ∧ s 6 = .own (.var 6) (m.objs (.var 6)).1 0 ((cat (ps.take k)).length) ∧ (m.objs (.var 6)).2 = .arr (!decide (((cat ps).length : Int) > 0)) 1 (bsl (cat (ps.take k))) ∧ s 25 = .v (.sl 1 np (ps.map pslice)) ∧ s 26 = .v (i64 (ps.length : Int)) ∧ s 27 = .v (i64 (k : Int)) ∧ (∀ i, (m.objs (.res i)).2 = .dead) ∧ m.G = []) (ps.length) ?_ ?_ ?_
  ·refine ⟨_, _, rfl, ?_, ?_, ?_, ?_, ?_, (by intro i; simp [Mem.set, hr]), (by exact hG)⟩ <;> try simp (disch := first | omega | decide) only [go_sem, f3, f9, f10, f11, f0, e9, cellsOf_psl, List.length_nil]
   all_goals rfl
  ·clear f3 f9 f10 f11 f0 hr hG
   rintro k σ hk ⟨s, m, rfl, f6, o6, f25, f26, f27, hr, hG⟩
   obtain ⟨g6, o6⟩ : ∃ g, m.objs (.var 6) = (g, .arr (!decide (((cat ps).length : Int) > 0)) 1 (bsl (cat (ps.take k)))) := ⟨_, Prod.ext rfl o6⟩
   rw [o6] at f6
   refine AW.sr (cfg := cfg2) ?_
   iterate 1 (apply aops_step (by decide) rfl; · (intro K hK; simp (disch := first | omega | decide) only [go_sem, f6, f25, f26, f27, o6, e9, cellsOf_psl, List.length_nil]; exact hK _))
   refine aops_nil ?_
   refine AW.seq ?_
   apply AW.cond
   ·(simp only [go_sem, f6, f25, f26, f27, o6, e9, cellsOf_psl, List.length_nil]; rfl)
   case hf => intro hb; (simp at hb; omega)
   case ht =>
   intro hb
   have hbt28 := hb
   refine AW.skip ?_
   refine AW.seq ?_
   refine AW.block ?_
   refine AW.sr (cfg := cfg2) ?_
   apply aops_step (by decide) rfl
   ·intro K hK
    simp (disch := first | omega | decide) only [go_sem, f6, f25, f26, f27, o6, e9, act_indexAddr_s u47 ti22, List.map, cellsOf_psl, List.length_nil]
    skip
    exact hK _
   apply aops_step (by decide) rfl
   ·intro K hK
    simp (disch := first | omega | decide) only [go_sem, f6, f25, f26, f27, o6, e9, act_load_t ti22, List.map, cellsOf_psl, List.length_nil]
    skip
    exact hK _
   iterate 1 (apply aops_step (by decide) rfl; · (intro K hK; simp (disch := first | omega | decide) only [go_sem, f6, f25, f26, f27, o6, e9, cellsOf_psl, List.length_nil]; exact hK _))
   refine aops_nil ?_
   have hg := cat_get hk
   have hle := cat_le (ps := ps) k
   have hle2 := cat_le (ps := ps) (k + 1)
   have hcs := cat_succ hk
   have hcl : (cat (ps.take k)).length + (ps[k].2).length ≤ 140737488355328 := by (rw [hcs, List.length_append] at hle2; omega)
   refine AW.region (cfg := cfg2) ?_
   iterate 2 (apply aops_step (by decide) rfl; · (intro K hK; simp (disch := first | omega | decide) only [go_sem, f6, f25, f26, f27, o6, e9, cellsOf_psl, List.length_nil]; exact hK _))
   apply aops_step (by decide) rfl
   ·intro K hK
    simp (disch := first | omega | decide) only [go_sem, f6, f25, f26, f27, o6, e9, List.map, cellsOf_psl, List.length_nil]
    apply mwp_append2 el22 ti5 u22
    case hpk => intro Q hQ; exact hQ
    case hs' => rfl
    case ho => simp (disch := first | omega | decide) only [go_sem, f6, f25, f26, f27, o6, e9, cellsOf_psl, List.length_nil]; rfl
    case hsz => rfl
    case hhi => (simp; done)
    case hb => (simp only [List.length_cons, List.length_nil, List.length_map, Nat.zero_add, Nat.reduceAdd, roomB]; omega)
    case hy => (simp [sub, cellsOf]; done)
    case k => (try simp only [List.nil_append, ← List.map_append, Bool.false_and]); exact hK _
   apply aops_step (by decide) rfl
   ·intro K hK
    simp (disch := first | omega | decide) only [go_sem, f6, f25, f26, f27, o6, e9, cellsOf_psl, List.length_nil]
    rw [asg_tmp (by simp (disch := first | omega | decide) only [go_sem, f6, f25, f26, f27, o6, e9, cellsOf_psl, List.length_nil]; rfl)]
    exact hK _
   refine aops_nil ?_
   refine AW.region (cfg := cfg2) ?_
   iterate 2 (apply aops_step (by decide) rfl; · (intro K hK; simp (disch := first | omega | decide) only [go_sem, f6, f25, f26, f27, o6, e9, cellsOf_psl, List.length_nil]; exact hK _))
   refine aops_nil ?_
   refine ⟨_, _, rfl, ?_, ?_, ?_, ?_, ?_, (by intro i; simp [Mem.set, hr]), (by exact hG)⟩ <;> try simp (disch := first | omega | decide) only [go_sem, f6, f25, f26, f27, o6, e9, cellsOf_psl, List.length_nil]
   all_goals first | rfl | (rw [cat_succ hk]; simp; done) | (rw [flag_step hg, cat_succ hk]; done)
  ·clear f3 f9 f10 f11 f0 hr hG
   rintro σ ⟨s, m, rfl, f6, o6, f25, f26, f27, hr, hG⟩
   obtain ⟨g6, o6⟩ : ∃ g, m.objs (.var 6) = (g, .arr (!decide (((cat ps).length : Int) > 0)) 1 (bsl (cat (ps.take ps.length)))) := ⟨_, Prod.ext rfl o6⟩
   rw [o6] at f6
   refine AW.sr (cfg := cfg2) ?_
   iterate 1 (apply aops_step (by decide) rfl; · (intro K hK; simp (disch := first | omega | decide) only [go_sem, f6, f25, f26, f27, o6, e9, cellsOf_psl, List.length_nil]; exact hK _))
   refine aops_nil ?_
   refine AW.seq ?_
   apply AW.cond
   ·(simp only [go_sem, f6, f25, f26, f27, o6, e9, cellsOf_psl, List.length_nil]; rfl)
   case ht => intro hb; (simp at hb; done)
   case hf =>
   intro hb
   have hbt28 := hb
   refine AW.exit ?_
   refine AW.sr (cfg := cfg2) ?_
   iterate 1 (apply aops_step (by decide) rfl; · (intro K hK; simp (disch := first | omega | decide) only [go_sem, f6, f25, f26, f27, o6, e9, cellsOf_psl, List.length_nil]; exact hK _))
   apply aops_step (by decide) rfl
   ·intro K hK
    simp (disch := first | omega | decide) only [go_sem, f6, f25, f26, f27, o6, e9, cellsOf_psl, List.length_nil]
    rw [asg_mv (by rfl) (by decide) (by simp (disch := first | omega | decide) only [go_sem, f6, f25, f26, f27, o6, e9, cellsOf_psl, List.length_nil] <;> rfl)]
    exact hK _
   refine aops_nil ?_
   refine AW.ret ?_
   refine ⟨.inr rfl, ?_⟩
   refine leaves_own1 2 rfl (by simp (disch := first | omega | decide) only [go_sem, f6, f25, f26, f27, o6, e9, cellsOf_psl, List.length_nil] <;> rfl) (by simp (disch := first | omega | decide) only [go_sem, f6, f25, f26, f27, o6, e9, cellsOf_psl, List.length_nil] <;> rfl) (by decide) (by simp [sub, List.take_of_length_le]) (by exact hG)
end Go.Vai.Z
