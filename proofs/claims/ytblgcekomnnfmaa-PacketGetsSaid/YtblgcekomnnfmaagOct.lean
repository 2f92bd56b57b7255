import Derived.Test.YtblgcekomnnfmaagCfg
import Derived.Test.YtblgcekomnnfmaaOctPl
namespace Go.Vai.O
open Go.Proofs Go.Vai
set_option linter.unusedSimpArgs false
set_option linter.unusedVariables false
set_option maxHeartbeats 4000000
set_option maxRecDepth 100000
theorem good_Clone (nil : Bool) (l : List (BitVec 8)) (hl : l.length ≤ 140737488355328) (hz : nil = true → l = []) : Good Try.prog 74 [(.sl 1 nil (bsl l), false)] [] [(.sl 1 nil (bsl l), true)] [] := by
 refine good_of_body3 8 Try.func74 rfl rfl rfl (by simp) ?_
 intro s m ha hr hv hG
 have f0 : s 0 = .v (.sl 1 nil (bsl l)) := ha 0 _ rfl
 clear ha
 refine AW.sr (cfg := cfg) ?_
 iterate 1 (apply aops_step (by decide) rfl; · (intro K hK; simp (disch := first | omega | decide) only [go_sem, f0, sz22]; exact hK _))
 refine aops_nil ?_
 refine AW.seq ?_
 refine AW.sr (cfg := cfg) ?_
 iterate 2 (apply aops_step (by decide) rfl; · (intro K hK; simp (disch := first | omega | decide) only [go_sem, f0, bin_eql_nil u22]; exact hK _))
 refine aops_nil ?_
 apply AW.cond
 ·(simp only [go_sem, f0]; rfl)
 case ht =>
  intro hb
  try simp only [bo1, bo2, bo3, bo4, bo5, bo6] at hb
  have hbt4 := hb
  refine AW.sr (cfg := cfg) ?_
  iterate 1 (apply aops_step (by decide) rfl; · (intro K hK; simp (disch := first | omega | decide) only [go_sem, f0, sz22]; exact hK _))
  refine aops_nil ?_
  refine AW.ret ?_
  refine ⟨.inr rfl, ?_⟩
  (obtain rfl : nil = true := (by simpa using hb); obtain rfl := hz rfl; refine ⟨_, nilEq_nil (nilEq_refl _), leaves_own1 2 rfl (by simp (disch := first | omega | decide) only [go_sem, f0] <;> rfl) (by simp (disch := first | omega | decide) only [go_sem, f0] <;> rfl) (by decide) (by simp [sub, List.take_of_length_le]) (by exact hG)⟩)
 case hf =>
  intro hb
  try simp only [bo1, bo2, bo3, bo4, bo5, bo6] at hb
  have hbt4 := hb
  refine AW.skip ?_
  refine AW.sr (cfg := cfg) ?_
  apply aops_step (by decide) rfl
  ·intro K hK
   rw [act_bs el22 ti5]
   (simp [-List.map_take, -List.map_drop, -BitVec.toNat_ofInt, -BitVec.ofInt_natCast, -BitVec.toNat_setWidth, -BitVec.toNat_ushiftRight, -BitVec.toNat_umod, -BitVec.toNat_udiv, go_sem, elems_v, cellishAV, Value.oneCell', isAggAV, partsOf, TI.z, TI.mk1, f0]; exact hK _)
  iterate 1 (apply aops_step (by decide) rfl; · (intro K hK; simp (disch := first | omega | decide) only [go_sem, f0]; exact hK _))
  apply aops_step (by decide) rfl
  ·intro K hK
   simp (disch := first | omega | decide) only [go_sem, f0, List.map]
   apply mwp_append2 el22 ti5 u22
   case hpk => intro Q hQ; exact hQ
   case hs' => rfl
   case ho => simp (disch := first | omega | decide) only [go_sem, f0]; rfl
   case hsz => rfl
   case hhi => (simp; done)
   case hb => (simp only [List.length_cons, List.length_nil, List.length_map, Nat.zero_add, Nat.reduceAdd, roomB]; omega)
   case hy => (simp [sub, cellsOf]; done)
   case k => (try simp only [List.nil_append, ← List.map_append, Bool.false_and]); exact hK _
  apply aops_step (by decide) rfl
  ·intro K hK
   simp (disch := first | omega | decide) only [go_sem, f0]
   rw [asg_tmp (by simp (disch := first | omega | decide) only [go_sem, f0]; rfl)]
   exact hK _
  refine aops_nil ?_
  refine AW.ret ?_
  refine ⟨.inr rfl, ?_⟩
  (obtain rfl : nil = false := (by simpa using hb); refine leavesN (leaves_own1 2 rfl (by simp (disch := first | omega | decide) only [go_sem, f0] <;> rfl) (by simp (disch := first | omega | decide) only [go_sem, f0] <;> rfl) (by decide) (by simp [sub, List.take_of_length_le]) (by exact hG)))
theorem good_mayO (w : Int) : Good Try.prog 75 [(i64 w, false)] [] [(.b (mayW w), false)] [] := by
 refine good_of_body2 9 Try.func75 rfl rfl rfl (by simp) ?_
 intro s m ha hr hv hG
 have f0 : s 0 = .v (i64 w) := ha 0 _ rfl
 clear ha
 refine AW.sr (cfg := cfg) ?_
 iterate 1 (apply aops_step (by decide) rfl; · (intro K hK; simp (disch := first | omega | decide) only [go_sem, f0]; exact hK _))
 refine aops_nil ?_
 refine AW.sr (cfg := cfg) ?_
 iterate 3 (apply aops_step (by decide) rfl; · (intro K hK; simp (disch := first | omega | decide) only [go_sem, f0]; exact hK _))
 apply aops_merge' (by decide) (by exact want_of (d := 5) rfl (by simp only [go_sem, f0, opn_cond]; rfl))
 ·intro hc K hK
  simp (disch := first | omega | decide) only [go_sem, f0, opn_cond, hc, if_true]
  exact hK _
 apply aops_merge' (by decide) (by exact want_of (d := 5) rfl (by simp (disch := first | omega | decide) only [go_sem, f0, opn_cond]; rfl))
 ·intro hc K hK
  simp (disch := first | omega | decide) only [go_sem, f0, opn_cond, hc, if_true]
  exact hK _
 iterate 2 (apply aops_step (by decide) rfl; · (intro K hK; simp (disch := first | omega | decide) only [go_sem, f0]; exact hK _))
 refine aops_nil ?_
 refine AW.ret ?_
 refine ⟨.inr rfl, ?_⟩
 refine leaves_mwp2 (rs := [.tmp 2]) rfl ?_
 simp (config := {failIfUnchanged := false}) [giveL, srcOne, rehome, freezeN, sub, upd, opn, aLoad, loadL, giveOne, reify, reifyL, readL, readOne, Mwp, M.bind, Mem.set, setAt, cellsL, hG, f0, mayW]
 all_goals first | done | omega | (simp_all; done) | (simp_all; omega) | grind
theorem good_Same (na nb : Bool) (a b : List (BitVec 8)) (ha : a.length ≤ 9223372036854775807) (hb : b.length ≤ 9223372036854775807) : Good Try.prog 14 [(.sl 1 na (bsl a), false), (.sl 1 nb (bsl b), false)] [] [(.b (decide (a = b)), false)] [] := by
 refine good_of_body2 26 Try.func14 rfl rfl rfl (by simp) ?_
 intro s m ha hr hv hG
 have f0 : s 0 = .v (.sl 1 na (bsl a)) := ha 0 _ rfl
 have f1 : s 1 = .v (.sl 1 nb (bsl b)) := ha 1 _ rfl
 clear ha
 refine AW.sr (cfg := cfg) ?_
 iterate 1 (apply aops_step (by decide) rfl; · (intro K hK; simp (disch := first | omega | decide) only [go_sem, f0, f1]; exact hK _))
 refine aops_nil ?_
 refine AW.seq ?_
 refine AW.sr (cfg := cfg) ?_
 iterate 5 (apply aops_step (by decide) rfl; · (intro K hK; simp (disch := first | omega | decide) only [go_sem, f0, f1, List.map, List.length_map, aops_len u22]; exact hK _))
 refine aops_nil ?_
 apply AW.cond
 ·first | (simp only [go_sem, f0, f1]; rfl) | (simp (disch := first | omega | decide) only [go_sem, f0, f1]; rfl)
 case ht =>
  intro hb
  try simp only [bo1, bo2, bo3, bo4, bo5, bo6] at hb
  have hbt10 := hb
  refine AW.sr (cfg := cfg) ?_
  iterate 1 (apply aops_step (by decide) rfl; · (intro K hK; simp (disch := first | omega | decide) only [go_sem, f0, f1]; exact hK _))
  refine aops_nil ?_
  refine AW.ret ?_
  refine ⟨.inr rfl, ?_⟩
  refine leaves_tmp1 4 rfl ?_ (by first | rfl | exact hG | (simp only [mset_G, hG]; done) | (simp only [mset_G, hG]; rfl))
  simp (disch := first | omega | decide) only [go_sem, f0, f1]
  all_goals first | (rw [decide_eq_false (fun e => by subst e; simp at hb)]; done) | (rw [decide_eq_true (by rw [List.take_length, mo0, List.take_length] at mo1; exact mo1)]; done) | (rw [decide_eq_false (fun e => by have := congrArg List.length e; omega)]; done) | trace_state
 case hf =>
  intro hb
  try simp only [bo1, bo2, bo3, bo4, bo5, bo6] at hb
  have hbt10 := hb
  refine AW.skip ?_
  refine AW.seq ?_
  refine AW.sr (cfg := cfg) ?_
  iterate 1 (apply aops_step (by decide) rfl; · (intro K hK; simp (disch := first | omega | decide) only [go_sem, f0, f1]; exact hK _))
  refine aops_nil ?_
  refine AW.block ?_
  refine AW.forN (fun k σ => ∃ s m, σ = ⟨26, s, m⟩ ∧ s 0 = .v (.sl 1 na (bsl a)) ∧ s 1 = .v (.sl 1 nb (bsl b)) ∧ s 5 = .v (i64 (k : Int)) ∧ (a.length = b.length) ∧ (a.take k = b.take k) ∧ m.G = []) (a.length) ?_ ?_ ?_
  ·refine ⟨_, _, rfl, ?_, ?_, ?_, ?_, ?_, (by first | exact hG | rfl | (simp only [mset_G, hG]; done) | (simp only [mset_G, hG]; rfl))⟩ <;> try simp (disch := first | omega | decide) only [go_sem, f0, f1]
   all_goals first | rfl | (simp; done) | omega
  ·clear f0 f1 hG
   rintro k σ hk ⟨s, m, rfl, f0, f1, f5, mo0, mo1, hG⟩
   refine AW.seq ?_
   refine AW.sr (cfg := cfg) ?_
   iterate 4 (apply aops_step (by decide) rfl; · (intro K hK; simp (disch := first | omega | decide) only [go_sem, f0, f1, f5, List.map, List.length_map, aops_len u22]; exact hK _))
   refine aops_nil ?_
   apply AW.cond
   ·first | (simp only [go_sem, f0, f1, f5]; rfl) | (simp (disch := first | omega | decide) only [go_sem, f0, f1, f5]; rfl)
   case hf => intro hb; first | (simp at hb; done) | (simp at hb; omega) | (have hb1 := of_decide_eq_false hb; omega) | (have hb1 := of_decide_eq_true hb; omega)
   case ht =>
   intro hb
   have hbt14 := hb
   refine AW.skip ?_
   refine AW.seq ?_
   refine AW.block ?_
   refine AW.seq ?_
   refine AW.draw (cfg := cfg) (by kernel_rfl) (by kernel_rfl) (by kernel_rfl) ?_
   iterate 2 (apply adraw_step rfl; · (intro K hK; simp (disch := first | omega | decide) only [go_sem, f0, f1, f5]; exact hK))
   apply adraw_step rfl
   ·intro K hK
    simp (disch := first | omega | decide) only [go_sem, f0, f1, f5, act_indexAddr_s u22 ti5, List.map]
    first | rw [mwp_aIndex_own (by simp (disch := first | omega | decide) only [go_sem, f0, f1, f5]; rfl) (by first | omega | (simp; omega)) (by first | omega | decide | (simp; omega))] | rw [mwp_aIndex_frz (by simp (disch := first | omega | decide) only [go_sem, f0, f1, f5]; rfl) (by first | omega | (simp; omega)) (by first | omega | decide | (simp; omega))] | skip
    exact hK
   apply adraw_step rfl
   ·intro K hK
    simp (disch := first | omega | decide) only [go_sem, f0, f1, f5, act_load_t ti5, List.map]
    first | rw [mwp_load_i1 (by rfl)] | rw [mwp_load_is (by simp)] | rw [mwp_load_g1 (by first | (rw [hG]; rfl) | rfl | (simp only [mset_G, hG]; rfl)) (by rfl)] | rw [mwp_load_gs (by first | (rw [hG]; rfl) | rfl | (simp only [mset_G, hG]; rfl)) (by simp)] | rw [mwp_load_bs (by simp (disch := first | omega | decide) only [go_sem, f0, f1, f5]; rfl) (by simp [setAt])] | rw [mwp_load_b1 (by simp only [go_sem, f0, f1, f5]; rfl) (by rfl)] | rw [mwp_load_b1 (by simp (disch := first | omega | decide) only [go_sem, f0, f1, f5]; rfl) (by rfl)] | rw [mwp_aLoad_map (by simp (disch := first | omega | decide) only [go_sem, f0, f1, f5]; rfl) (by first | omega | decide | (simp; omega)) (fun _ => rfl)] | rw [mwp_aLoad_frz (by simp (disch := first | omega | decide) only [go_sem, f0, f1, f5]; rfl) (by first | omega | decide | (simp; omega)) (fun _ => rfl)] | rw [mwp_aLoad_e1 (by simp (disch := first | omega | decide) only [go_sem, f0, f1, f5]; rfl) (by first | rfl | simp) rfl] | rw [mwp_aLoad_f1 (by simp (disch := first | omega | decide) only [go_sem, f0, f1, f5]; rfl) (by rfl) rfl] | skip
    exact hK
   iterate 2 (apply adraw_step rfl; · (intro K hK; simp (disch := first | omega | decide) only [go_sem, f0, f1, f5]; exact hK))
   apply adraw_step rfl
   ·intro K hK
    simp (disch := first | omega | decide) only [go_sem, f0, f1, f5, act_indexAddr_s u22 ti5, List.map]
    first | rw [mwp_aIndex_own (by simp (disch := first | omega | decide) only [go_sem, f0, f1, f5]; rfl) (by first | omega | (simp; omega)) (by first | omega | decide | (simp; omega))] | rw [mwp_aIndex_frz (by simp (disch := first | omega | decide) only [go_sem, f0, f1, f5]; rfl) (by first | omega | (simp; omega)) (by first | omega | decide | (simp; omega))] | skip
    exact hK
   apply adraw_step rfl
   ·intro K hK
    simp (disch := first | omega | decide) only [go_sem, f0, f1, f5, act_load_t ti5, List.map]
    first | rw [mwp_load_i1 (by rfl)] | rw [mwp_load_is (by simp)] | rw [mwp_load_g1 (by first | (rw [hG]; rfl) | rfl | (simp only [mset_G, hG]; rfl)) (by rfl)] | rw [mwp_load_gs (by first | (rw [hG]; rfl) | rfl | (simp only [mset_G, hG]; rfl)) (by simp)] | rw [mwp_load_bs (by simp (disch := first | omega | decide) only [go_sem, f0, f1, f5]; rfl) (by simp [setAt])] | rw [mwp_load_b1 (by simp only [go_sem, f0, f1, f5]; rfl) (by rfl)] | rw [mwp_load_b1 (by simp (disch := first | omega | decide) only [go_sem, f0, f1, f5]; rfl) (by rfl)] | rw [mwp_aLoad_map (by simp (disch := first | omega | decide) only [go_sem, f0, f1, f5]; rfl) (by first | omega | decide | (simp; omega)) (fun _ => rfl)] | rw [mwp_aLoad_frz (by simp (disch := first | omega | decide) only [go_sem, f0, f1, f5]; rfl) (by first | omega | decide | (simp; omega)) (fun _ => rfl)] | rw [mwp_aLoad_e1 (by simp (disch := first | omega | decide) only [go_sem, f0, f1, f5]; rfl) (by first | rfl | simp) rfl] | rw [mwp_aLoad_f1 (by simp (disch := first | omega | decide) only [go_sem, f0, f1, f5]; rfl) (by rfl) rfl] | skip
    exact hK
   iterate 1 (apply adraw_step rfl; · (intro K hK; simp (disch := first | omega | decide) only [go_sem, f0, f1, f5]; exact hK))
   refine adraw_nil (by kernel_rfl) ?_
   apply AW.cond
   ·first | (simp only [go_sem, f0, f1, f5]; rfl) | (simp (disch := first | omega | decide) only [go_sem, f0, f1, f5]; rfl)
   case ht =>
    intro hb
    try simp only [bo1, bo2, bo3, bo4, bo5, bo6] at hb
    have hbt25 := hb
    refine AW.sr (cfg := cfg) ?_
    iterate 1 (apply aops_step (by decide) rfl; · (intro K hK; simp (disch := first | omega | decide) only [go_sem, f0, f1, f5]; exact hK _))
    refine aops_nil ?_
    refine AW.ret ?_
    refine ⟨.inr rfl, ?_⟩
    refine leaves_tmp1 4 rfl ?_ (by first | rfl | exact hG | (simp only [mset_G, hG]; done) | (simp only [mset_G, hG]; rfl))
    simp (disch := first | omega | decide) only [go_sem, f0, f1, f5]
    all_goals first | (rw [decide_eq_false (fun e => by subst e; simp at hb)]; done) | (rw [decide_eq_true (by rw [List.take_length, mo0, List.take_length] at mo1; exact mo1)]; done) | (rw [decide_eq_false (fun e => by have := congrArg List.length e; omega)]; done) | trace_state
   case hf =>
    intro hb
    try simp only [bo1, bo2, bo3, bo4, bo5, bo6] at hb
    have hbt25 := hb
    refine AW.skip ?_
    refine AW.region (cfg := cfg) ?_
    iterate 3 (apply aops_step (by decide) rfl; · (intro K hK; simp (disch := first | omega | decide) only [go_sem, f0, f1, f5]; exact hK _))
    refine aops_nil ?_
    refine ⟨_, _, rfl, ?_, ?_, ?_, ?_, ?_, (by first | exact hG | rfl | (simp only [mset_G, hG]; done) | (simp only [mset_G, hG]; rfl))⟩ <;> try simp (disch := first | omega | decide) only [go_sem, f0, f1, f5]
    all_goals first | rfl | assumption | skip
    all_goals (rw [List.take_succ_eq_append_getElem (by omega), List.take_succ_eq_append_getElem (by omega), mo1]; congr 2; apply BitVec.eq_of_toNat_eq; simp at hb; omega)
  ·clear f0 f1 hG
   rintro σ ⟨s, m, rfl, f0, f1, f5, mo0, mo1, hG⟩
   refine AW.seq ?_
   refine AW.sr (cfg := cfg) ?_
   iterate 4 (apply aops_step (by decide) rfl; · (intro K hK; simp (disch := first | omega | decide) only [go_sem, f0, f1, f5, List.map, List.length_map, aops_len u22]; exact hK _))
   refine aops_nil ?_
   apply AW.cond
   ·first | (simp only [go_sem, f0, f1, f5]; rfl) | (simp (disch := first | omega | decide) only [go_sem, f0, f1, f5]; rfl)
   case ht => intro hb; first | (simp at hb; done) | (simp at hb; omega) | (have hb1 := of_decide_eq_false hb; omega) | (have hb1 := of_decide_eq_true hb; omega)
   case hf =>
   intro hb
   have hbt14 := hb
   refine AW.exit ?_
   refine AW.sr (cfg := cfg) ?_
   iterate 1 (apply aops_step (by decide) rfl; · (intro K hK; simp (disch := first | omega | decide) only [go_sem, f0, f1, f5]; exact hK _))
   refine aops_nil ?_
   refine AW.ret ?_
   refine ⟨.inr rfl, ?_⟩
   refine leaves_tmp1 4 rfl ?_ (by first | rfl | exact hG | (simp only [mset_G, hG]; done) | (simp only [mset_G, hG]; rfl))
   simp (disch := first | omega | decide) only [go_sem, f0, f1, f5]
   all_goals first | (rw [decide_eq_false (fun e => by subst e; simp at hb)]; done) | (rw [decide_eq_true (by rw [List.take_length, mo0, List.take_length] at mo1; exact mo1)]; done) | (rw [decide_eq_false (fun e => by have := congrArg List.length e; omega)]; done) | trace_state
theorem mayW_range {w : Int} (h : mayW w = true) : 1 ≤ w ∧ w ≤ 8 := by simpa [mayW] using h
theorem byte_div {n : Int} {w k : Nat} (h : k < w) : BitVec.ofInt 8 (n / 2 ^ (8 * ((w : Int) - 1 - (k : Int))).toNat) = byteAt n (w - 1 - k) := by
  unfold byteAt
  rw [show (8 * ((w : Int) - 1 - (k : Int))).toNat = 8 * (w - 1 - k) by omega]
theorem byte_wrap (x : Int) : IntKind.u8.wrap x = ((BitVec.ofInt 8 x).toNat : Int) := wrapu8 x
theorem numS_no {w n : Int} (h : mayW w = false) : numS w n = [] := by simp [numS, h]
theorem numS_is {w n : Int} (h : mayW w = true) : numS w n = numB w.toNat n w.toNat := by simp [numS, h]
theorem good_Num (nil : Bool) (l : List (BitVec 8)) (hl : l.length ≤ 140737488355320) (hz : nil = true → l = []) (w n : Int) (hn : 0 ≤ n ∧ n < 18446744073709551616) : Good Try.prog 40 [(.sl 1 nil (bsl l), false), (i64 w, false), (.i .u64 n, false)] [] [(.sl 1 (nil && !mayW w) (bsl (l ++ numS w n)), true)] [] := by
 refine good_of_body3 30 Try.func40 rfl rfl rfl (by simp) ?_
 intro s m ha hr hv hG
 have f0 : s 0 = .v (.sl 1 nil (bsl l)) := ha 0 _ rfl
 have f1 : s 1 = .v (i64 w) := ha 1 _ rfl
 have f2 : s 2 = .v (.i .u64 n) := ha 2 _ rfl
 clear ha
 refine AW.sr (cfg := cfgN) ?_
 iterate 1 (apply aops_step (by decide) rfl; · (intro K hK; simp (disch := first | omega | decide) only [go_sem, f0, f1, f2, sz22, byte_wrap]; exact hK _))
 refine aops_nil ?_
 refine AW.sr (cfg := cfgN) ?_
 iterate 1 (apply aops_step (by decide) rfl; · (intro K hK; simp (disch := first | omega | decide) only [go_sem, f0, f1, f2, byte_wrap]; exact hK _))
 apply aops_step (by decide) rfl
 ·intro K hK
  simp (disch := first | omega | decide) only [go_sem, f0, f1, f2, act_call, List.map, byte_wrap]
  apply mwp_call_r rfl rfl rfl
  ·intro Q hQ
   (simp (disch := first | omega | decide) only [go_sem, f0, f1, f2, peekL, reifyL_nil, reifyL_cons, reify_v, byte_wrap]; (exact hQ))
  ·exact good_Clone _ _ (by omega) hz
  ·simp [-List.map_take, -List.map_drop, -List.map_append, -List.map_replicate, -List.reduceReplicate, noPtrL, noPtr, noPtrL_bsl, noPtrL_map, sub]
  ·rw [resOf_own1 (by (simp (disch := decide) only [mset_ne, hr]; done))]
   exact hK _
 apply aops_step (by decide) rfl
 ·intro K hK
  simp (disch := first | omega | decide) only [go_sem, f0, f1, f2, byte_wrap]
  rw [asg_tmp (by simp (disch := first | omega | decide) only [go_sem, f0, f1, f2, byte_wrap]; rfl)]
  exact hK _
 refine aops_nil ?_
 refine AW.seq ?_
 refine AW.sr (cfg := cfgN) ?_
 iterate 1 (apply aops_step (by decide) rfl; · (intro K hK; simp (disch := first | omega | decide) only [go_sem, f0, f1, f2, byte_wrap]; exact hK _))
 apply aops_step (by decide) rfl
 ·intro K hK
  simp (disch := first | omega | decide) only [go_sem, f0, f1, f2, act_call, List.map, byte_wrap]
  apply mwp_call_s rfl rfl rfl
  ·intro Q hQ
   (simp (disch := first | omega | decide) only [go_sem, f0, f1, f2, peekL, reifyL_nil, reifyL_cons, reify_v, byte_wrap]; (exact hQ))
  ·exact good_mayO _
  ·simp [-List.map_take, -List.map_drop, -List.map_append, -List.map_replicate, -List.reduceReplicate, noPtrL, noPtr, noPtrL_bsl, noPtrL_map, sub]
  ·rfl
  ·exact hK _
 iterate 1 (apply aops_step (by decide) rfl; · (intro K hK; simp (disch := first | omega | decide) only [go_sem, f0, f1, f2, byte_wrap]; exact hK _))
 refine aops_nil ?_
 apply AW.cond
 ·(simp only [go_sem, f0, f1, f2, byte_wrap]; rfl)
 case ht =>
  intro hb
  try simp only [bo1, bo2, bo3, bo4, bo5, bo6] at hb
  have hbt13 := hb
  refine AW.sr (cfg := cfgN) ?_
  iterate 1 (apply aops_step (by decide) rfl; · (intro K hK; simp (disch := first | omega | decide) only [go_sem, f0, f1, f2, byte_wrap]; exact hK _))
  apply aops_step (by decide) rfl
  ·intro K hK
   simp (disch := first | omega | decide) only [go_sem, f0, f1, f2, byte_wrap]
   rw [asg_mv (by rfl) (by decide) (by simp (disch := first | omega | decide) only [go_sem, f0, f1, f2, byte_wrap] <;> rfl)]
   exact hK _
  refine aops_nil ?_
  refine AW.ret ?_
  refine ⟨.inr rfl, ?_⟩
  (have hw : mayW w = false := (by simpa using hb); have e0 : (nil && !mayW w) = nil := (by simp [hw]); rw [e0, numS_no hw, List.append_nil]; refine leavesN (leaves_own1 6 rfl (by simp (disch := first | omega | decide) only [go_sem, f0, f1, f2, byte_wrap] <;> rfl) (by simp (disch := first | omega | decide) only [go_sem, f0, f1, f2, byte_wrap] <;> rfl) (by decide) (by simp [sub, List.take_of_length_le]) (by exact hG)))
 case hf =>
  intro hb
  try simp only [bo1, bo2, bo3, bo4, bo5, bo6] at hb
  have hbt13 := hb
  refine AW.skip ?_
  refine AW.seq ?_
  refine AW.seq ?_
  have hw : mayW w = true := by simpa using hbt13
  have hw2 := mayW_range hw
  have e0 : (nil && !mayW w) = false := by simp [hw]
  obtain ⟨W, rfl⟩ := Int.eq_ofNat_of_zero_le (show 0 ≤ w by omega)
  refine AW.region (cfg := cfgN) ?_
  iterate 3 (apply aops_step (by decide) rfl; · (intro K hK; simp (disch := first | omega | decide) only [go_sem, f0, f1, f2, byte_wrap]; exact hK _))
  refine aops_nil ?_
  refine AW.block ?_
  refine AW.forN (fun k σ => ∃ s m, σ = ⟨30, s, m⟩ ∧ s 2 = .v (.i .u64 n) ∧ s 7 = .own (.var 7) (m.objs (.var 7)).1 0 (l.length + k) ∧ (m.objs (.var 7)).2 = .arr (nil && decide (k = 0)) 1 (bsl (l ++ numB W n k)) ∧ s 8 = .v (i64 ((W : Int) - 1 - (k : Int))) ∧ (mayW (W : Int) = true) ∧ (∀ i, (m.objs (.res i)).2 = .dead) ∧ m.G = []) (W) ?_ ?_ ?_
  ·refine ⟨_, _, rfl, ?_, ?_, ?_, ?_, ?_, (by intro i; simp [Mem.set, hr]), (by exact hG)⟩ <;> try simp (disch := first | omega | decide) only [go_sem, f0, f1, f2, byte_wrap]
   all_goals first | assumption | (simp [numB]; done)
  ·clear f0 f1 f2 hr hG
   rintro k σ hk ⟨s, m, rfl, f2, f7, o7, f8, mo0, hr, hG⟩
   obtain ⟨g7, o7⟩ : ∃ g, m.objs (.var 7) = (g, .arr (nil && decide (k = 0)) 1 (bsl (l ++ numB W n k))) := ⟨_, Prod.ext rfl o7⟩
   rw [o7] at f7
   refine AW.seq ?_
   refine AW.sr (cfg := cfgN) ?_
   iterate 2 (apply aops_step (by decide) rfl; · (intro K hK; simp (disch := first | omega | decide) only [go_sem, f2, f7, f8, o7, byte_wrap]; exact hK _))
   refine aops_nil ?_
   apply AW.cond
   ·(simp only [go_sem, f2, f7, f8, o7, byte_wrap]; rfl)
   case hf => intro hb; (simp at hb; omega)
   case ht =>
   intro hb
   have hbt18 := hb
   refine AW.skip ?_
   refine AW.seq ?_
   refine AW.block ?_
   refine AW.region (cfg := cfgN) ?_
   iterate 6 (apply aops_step (by decide) rfl; · (intro K hK; simp (disch := first | omega | decide) only [go_sem, f2, f7, f8, o7, act_convI u71 u5, byte_wrap]; exact hK _))
   apply aops_step (by decide) rfl
   ·intro K hK
    rw [act_bs el22 ti5]
    (simp [-List.map_take, -List.map_drop, -BitVec.toNat_ofInt, -BitVec.ofInt_natCast, -BitVec.toNat_setWidth, -BitVec.toNat_ushiftRight, -BitVec.toNat_umod, -BitVec.toNat_udiv, go_sem, elems_v, cellishAV, Value.oneCell', isAggAV, partsOf, TI.z, TI.mk1, f2, f7, f8, o7]; exact hK _)
   apply aops_step (by decide) rfl
   ·intro K hK
    simp (disch := first | omega | decide) only [go_sem, f2, f7, f8, o7, List.map, byte_wrap]
    apply mwp_append2 el22 ti5 u22
    case hpk => intro Q hQ; (rw [peek_own (by simp (disch := first | omega | decide) only [go_sem, f2, f7, f8, o7, byte_wrap]; rfl)]; (try rw [sub_full (by rfl)]); exact hQ)
    case hs' => rfl
    case ho => simp (disch := first | omega | decide) only [go_sem, f2, f7, f8, o7, byte_wrap]; rfl
    case hsz => rfl
    case hhi => (simp [numB_length]; done)
    case hb => (simp only [List.length_cons, List.length_nil, List.length_map, Nat.zero_add, Nat.reduceAdd, roomB]; omega)
    case hy => exact all_cells rfl
    case k => (try simp only [List.nil_append, ← List.map_append, Bool.false_and]); exact hK _
   apply aops_step (by decide) rfl
   ·intro K hK
    simp (disch := first | omega | decide) only [go_sem, f2, f7, f8, o7, byte_wrap]
    rw [asg_tmp (by simp (disch := first | omega | decide) only [go_sem, f2, f7, f8, o7, byte_wrap]; rfl)]
    exact hK _
   refine aops_nil ?_
   refine AW.region (cfg := cfgN) ?_
   iterate 3 (apply aops_step (by decide) rfl; · (intro K hK; simp (disch := first | omega | decide) only [go_sem, f2, f7, f8, o7, byte_wrap]; exact hK _))
   refine aops_nil ?_
   refine ⟨_, _, rfl, ?_, ?_, ?_, ?_, ?_, (by intro i; simp [Mem.set, hr]), (by exact hG)⟩ <;> try simp (disch := first | omega | decide) only [go_sem, f2, f7, f8, o7, byte_wrap]
   all_goals first | rfl | assumption | (simp [numB_length]; omega) | (rw [numB_succ]; simp [sub, byte_div hk]; done)
  ·clear f0 f1 f2 hr hG
   rintro σ ⟨s, m, rfl, f2, f7, o7, f8, mo0, hr, hG⟩
   obtain ⟨g7, o7⟩ : ∃ g, m.objs (.var 7) = (g, .arr (nil && decide (W = 0)) 1 (bsl (l ++ numB W n W))) := ⟨_, Prod.ext rfl o7⟩
   rw [o7] at f7
   refine AW.seq ?_
   refine AW.sr (cfg := cfgN) ?_
   iterate 2 (apply aops_step (by decide) rfl; · (intro K hK; simp (disch := first | omega | decide) only [go_sem, f2, f7, f8, o7, byte_wrap]; exact hK _))
   refine aops_nil ?_
   apply AW.cond
   ·(simp only [go_sem, f2, f7, f8, o7, byte_wrap]; rfl)
   case ht => intro hb; (simp at hb; omega)
   case hf =>
   intro hb
   have hbt18 := hb
   refine AW.exit ?_
   refine AW.sr (cfg := cfgN) ?_
   iterate 1 (apply aops_step (by decide) rfl; · (intro K hK; simp (disch := first | omega | decide) only [go_sem, f2, f7, f8, o7, byte_wrap]; exact hK _))
   apply aops_step (by decide) rfl
   ·intro K hK
    simp (disch := first | omega | decide) only [go_sem, f2, f7, f8, o7, byte_wrap]
    rw [asg_mv (by rfl) (by decide) (by simp (disch := first | omega | decide) only [go_sem, f2, f7, f8, o7, byte_wrap] <;> rfl)]
    exact hK _
   refine aops_nil ?_
   refine AW.ret ?_
   refine ⟨.inr rfl, ?_⟩
   (rw [show (nil && !mayW (W : Int)) = (nil && decide (W = 0)) by (have := mayW_range mo0; simp [mo0]; omega), numS_is mo0, Int.toNat_natCast]; refine leavesN (leaves_own1 6 rfl (by simp (disch := first | omega | decide) only [go_sem, f2, f7, f8, o7, byte_wrap] <;> rfl) (by simp (disch := first | omega | decide) only [go_sem, f2, f7, f8, o7, byte_wrap] <;> rfl) (by decide) (sub_full (by simp [numB_length])) (by exact hG)))
theorem byte_rem (x : Int) : BitVec.ofInt 8 (x % 256) = BitVec.ofInt 8 x := by
  apply BitVec.eq_of_toNat_eq
  simp [BitVec.toNat_ofInt]
theorem div_step (n : Int) (k : Nat) : n / 2 ^ (8 * k) / 256 = n / 2 ^ (8 * (k + 1)) := by
  rw [Int.ediv_ediv_of_nonneg (Int.le_of_lt (Int.pow_pos (by omega))), show 8 * (k + 1) = 8 * k + 8 by omega, Int.pow_add]
  rfl
theorem div_range {n : Int} (h : 0 ≤ n ∧ n < 18446744073709551616) (k : Nat) : 0 ≤ n / 2 ^ (8 * k) ∧ n / 2 ^ (8 * k) < 18446744073709551616 :=
  ⟨Int.ediv_nonneg h.1 (Int.le_of_lt (Int.pow_pos (by omega))), Int.lt_of_le_of_lt (Int.ediv_le_self _ h.1) h.2⟩
theorem good_refNum (W : Nat) (n : Int) (hW : W ≤ 8) (hn : 0 ≤ n ∧ n < 18446744073709551616) : Good Try.prog 68 [(i64 (W : Int), false), (.i .u64 n, false)] [] [(.sl 1 false (bsl (numR n W)), true)] [] := by
 refine good_of_body3 22 Try.func68 rfl rfl rfl (by simp) ?_
 intro s m ha hr hv hG
 have f0 : s 0 = .v (i64 (W : Int)) := ha 0 _ rfl
 have f1 : s 1 = .v (.i .u64 n) := ha 1 _ rfl
 clear ha
 refine AW.sr (cfg := cfg4) ?_
 iterate 1 (apply aops_step (by decide) rfl; · (intro K hK; simp (disch := first | omega | decide) only [go_sem, f0, f1, sz22, byte_wrap, byte_rem]; exact hK _))
 refine aops_nil ?_
 refine AW.sr (cfg := cfg4) ?_
 apply aops_step (by decide) rfl
 ·intro K hK
  rw [act_bs el22 ti5]
  (simp [-List.map_take, -List.map_drop, -BitVec.toNat_ofInt, -BitVec.ofInt_natCast, -BitVec.toNat_setWidth, -BitVec.toNat_ushiftRight, -BitVec.toNat_umod, -BitVec.toNat_udiv, go_sem, elems_v, cellishAV, Value.oneCell', isAggAV, partsOf, TI.z, TI.mk1, f0, f1]; exact hK _)
 apply aops_step (by decide) rfl
 ·intro K hK
  simp (disch := first | omega | decide) only [go_sem, f0, f1, byte_wrap, byte_rem]
  rw [asg_tmp (by simp (disch := first | omega | decide) only [go_sem, f0, f1, byte_wrap, byte_rem]; rfl)]
  exact hK _
 refine aops_nil ?_
 refine AW.seq ?_
 refine AW.sr (cfg := cfg4) ?_
 iterate 1 (apply aops_step (by decide) rfl; · (intro K hK; simp (disch := first | omega | decide) only [go_sem, f0, f1, byte_wrap, byte_rem]; exact hK _))
 refine aops_nil ?_
 refine AW.block ?_
 refine AW.forN (fun k σ => ∃ s m, σ = ⟨22, s, m⟩ ∧ s 0 = .v (i64 (W : Int)) ∧ s 1 = .v (.i .u64 (n / 2 ^ (8 * k))) ∧ s 5 = .own (.var 5) (m.objs (.var 5)).1 0 (k) ∧ (m.objs (.var 5)).2 = .arr false 1 (bsl (numR n k)) ∧ s 6 = .v (i64 (k : Int)) ∧ (∀ i, (m.objs (.res i)).2 = .dead) ∧ m.G = []) (W) ?_ ?_ ?_
 ·refine ⟨_, _, rfl, ?_, ?_, ?_, ?_, ?_, (by intro i; simp [Mem.set, hr]), (by exact hG)⟩ <;> try simp (disch := first | omega | decide) only [go_sem, f0, f1, byte_wrap, byte_rem]
  all_goals first | rfl | (simp; done)
 ·clear f0 f1 hr hG
  rintro k σ hk ⟨s, m, rfl, f0, f1, f5, o5, f6, hr, hG⟩
  obtain ⟨g5, o5⟩ : ∃ g, m.objs (.var 5) = (g, .arr false 1 (bsl (numR n k))) := ⟨_, Prod.ext rfl o5⟩
  rw [o5] at f5
  refine AW.seq ?_
  refine AW.sr (cfg := cfg4) ?_
  iterate 3 (apply aops_step (by decide) rfl; · (intro K hK; simp (disch := first | omega | decide) only [go_sem, f0, f1, f5, f6, o5, byte_wrap, byte_rem]; exact hK _))
  refine aops_nil ?_
  apply AW.cond
  ·(simp only [go_sem, f0, f1, f5, f6, o5, byte_wrap, byte_rem]; rfl)
  case hf => intro hb; (simp at hb; omega)
  case ht =>
  intro hb
  have hbt10 := hb
  refine AW.skip ?_
  refine AW.seq ?_
  refine AW.block ?_
  refine AW.seq ?_
  have hd := div_range hn k
  refine AW.region (cfg := cfg4) ?_
  iterate 3 (apply aops_step (by decide) rfl; · (intro K hK; simp (disch := first | omega | decide) only [go_sem, f0, f1, f5, f6, o5, act_convI u71 u5, byte_wrap, byte_rem]; exact hK _))
  apply aops_step (by decide) rfl
  ·intro K hK
   rw [act_bs el22 ti5]
   (simp [-List.map_take, -List.map_drop, -BitVec.toNat_ofInt, -BitVec.ofInt_natCast, -BitVec.toNat_setWidth, -BitVec.toNat_ushiftRight, -BitVec.toNat_umod, -BitVec.toNat_udiv, go_sem, elems_v, cellishAV, Value.oneCell', isAggAV, partsOf, TI.z, TI.mk1, f0, f1, f5, f6, o5]; exact hK _)
  iterate 1 (apply aops_step (by decide) rfl; · (intro K hK; simp (disch := first | omega | decide) only [go_sem, f0, f1, f5, f6, o5, byte_wrap, byte_rem]; exact hK _))
  apply aops_step (by decide) rfl
  ·intro K hK
   simp (disch := first | omega | decide) only [go_sem, f0, f1, f5, f6, o5, List.map, byte_wrap, byte_rem]
   apply mwp_append2 el22 ti5 u22
   case hpk => intro Q hQ; (rw [peek_own (by simp (disch := first | omega | decide) only [go_sem, f0, f1, f5, f6, o5, byte_wrap, byte_rem]; rfl)]; (try rw [sub_full (by simp [numR_length])]); exact hQ)
   case hs' => rfl
   case ho => simp (disch := first | omega | decide) only [go_sem, f0, f1, f5, f6, o5, byte_wrap, byte_rem]; rfl
   case hsz => rfl
   case hhi => (simp [numR_length]; done)
   case hb => (simp [sub, roomB, numR_length]; omega)
   case hy => (simp [sub, cellsOf]; done)
   case k => (try simp only [List.nil_append, ← List.map_append, Bool.false_and]); exact hK _
  apply aops_step (by decide) rfl
  ·intro K hK
   simp (disch := first | omega | decide) only [go_sem, f0, f1, f5, f6, o5, byte_wrap, byte_rem]
   rw [asg_tmp (by simp (disch := first | omega | decide) only [go_sem, f0, f1, f5, f6, o5, byte_wrap, byte_rem]; rfl)]
   exact hK _
  refine aops_nil ?_
  refine AW.region (cfg := cfg4) ?_
  iterate 3 (apply aops_step (by decide) rfl; · (intro K hK; simp (disch := first | omega | decide) only [go_sem, f0, f1, f5, f6, o5, byte_wrap, byte_rem]; exact hK _))
  refine aops_nil ?_
  refine AW.region (cfg := cfg4) ?_
  iterate 3 (apply aops_step (by decide) rfl; · (intro K hK; simp (disch := first | omega | decide) only [go_sem, f0, f1, f5, f6, o5, byte_wrap, byte_rem]; exact hK _))
  refine aops_nil ?_
  refine ⟨_, _, rfl, ?_, ?_, ?_, ?_, ?_, (by intro i; simp [Mem.set, hr]), (by exact hG)⟩ <;> try simp (disch := first | omega | decide) only [go_sem, f0, f1, f5, f6, o5, byte_wrap, byte_rem]
  all_goals first | rfl | (simp [numR_length]; omega) | (rw [div_step]; done)
 ·clear f0 f1 hr hG
  rintro σ ⟨s, m, rfl, f0, f1, f5, o5, f6, hr, hG⟩
  obtain ⟨g5, o5⟩ : ∃ g, m.objs (.var 5) = (g, .arr false 1 (bsl (numR n W))) := ⟨_, Prod.ext rfl o5⟩
  rw [o5] at f5
  refine AW.seq ?_
  refine AW.sr (cfg := cfg4) ?_
  iterate 3 (apply aops_step (by decide) rfl; · (intro K hK; simp (disch := first | omega | decide) only [go_sem, f0, f1, f5, f6, o5, byte_wrap, byte_rem]; exact hK _))
  refine aops_nil ?_
  apply AW.cond
  ·(simp only [go_sem, f0, f1, f5, f6, o5, byte_wrap, byte_rem]; rfl)
  case ht => intro hb; (simp at hb; done)
  case hf =>
  intro hb
  have hbt10 := hb
  refine AW.exit ?_
  refine AW.sr (cfg := cfg4) ?_
  iterate 1 (apply aops_step (by decide) rfl; · (intro K hK; simp (disch := first | omega | decide) only [go_sem, f0, f1, f5, f6, o5, byte_wrap, byte_rem]; exact hK _))
  apply aops_step (by decide) rfl
  ·intro K hK
   simp (disch := first | omega | decide) only [go_sem, f0, f1, f5, f6, o5, byte_wrap, byte_rem]
   rw [asg_mv (by rfl) (by decide) (by simp (disch := first | omega | decide) only [go_sem, f0, f1, f5, f6, o5, byte_wrap, byte_rem] <;> rfl)]
   exact hK _
  refine aops_nil ?_
  refine AW.ret ?_
  refine ⟨.inr rfl, ?_⟩
  refine leavesN (leaves_own1 4 rfl (by simp (disch := first | omega | decide) only [go_sem, f0, f1, f5, f6, o5, byte_wrap, byte_rem] <;> rfl) (by simp (disch := first | omega | decide) only [go_sem, f0, f1, f5, f6, o5, byte_wrap, byte_rem] <;> rfl) (by decide) (sub_full (by simp [numR_length])) (by exact hG))
def txO (t : List (BitVec 8)) : Bool := decide (t.length ≤ 65535)
def txR (l t : List (BitVec 8)) : List (BitVec 8) := if txO t then l ++ numS 2 (t.length : Int) ++ t else l
theorem good_Read (nil : Bool) (l : List (BitVec 8)) (hl : l.length ≤ 140737488355328) (hz : nil = true → l = []) : Good Try.prog 33 [(.sl 1 nil (bsl l), false)] [] [(.gp 0 0, false)] [[.sl 1 (nil) (bsl (l)), .b (false)]] := by
 refine good_of_body2 7 Try.func33 rfl rfl rfl (by simp) ?_
 intro s m ha hr hv hG
 have f0 : s 0 = .v (.sl 1 nil (bsl l)) := ha 0 _ rfl
 clear ha
 refine AW.sr (cfg := cfgG) ?_
 iterate 1 (apply aops_step (by decide) rfl; · (intro K hK; simp (disch := first | omega | decide) only [go_sem, f0]; exact hK _))
 refine aops_nil ?_
 refine AW.sr (cfg := cfgG) ?_
 iterate 1 (apply aops_step (by decide) rfl; · (intro K hK; simp (disch := first | omega | decide) only [go_sem, f0]; exact hK _))
 apply aops_step (by decide) rfl
 ·intro K hK
  simp (disch := first | omega | decide) only [go_sem, f0, act_call, List.map]
  apply mwp_call_r rfl rfl rfl
  ·intro Q hQ
   first | (simp (disch := first | omega | decide) only [go_sem, f0, peekL, reifyL_nil, reifyL_cons, reify_v]; (first | exact hQ | (((first | rw [peek_own (by simp (disch := first | omega | decide) only [go_sem, f0, peekL, reifyL_nil, reifyL_cons, reify_v]; rfl)] | rw [mwp_reify_own (by simp only [go_sem, f0, peekL, reifyL_nil, reifyL_cons, reify_v]; rfl)] | rw [mwp_reify_own (by simp (disch := first | omega | decide) only [go_sem, f0, peekL, reifyL_nil, reifyL_cons, reify_v]; rfl)] | rw [peek_frz (by simp (disch := first | omega | decide) only [go_sem, f0, peekL, reifyL_nil, reifyL_cons, reify_v]; rfl)] | rw [reify_frz (by simp (disch := first | omega | decide) only [go_sem, f0, peekL, reifyL_nil, reifyL_cons, reify_v]; rfl)]); (try rw [sub_full (by first | rfl | (simp only [List.length_map, List.length_replicate]; done) | (simp; done) | (simp; omega))])); exact hQ) | (((first | rw [peek_own (by simp (disch := first | omega | decide) only [go_sem, f0, peekL, reifyL_nil, reifyL_cons, reify_v]; rfl)] | rw [mwp_reify_own (by simp only [go_sem, f0, peekL, reifyL_nil, reifyL_cons, reify_v]; rfl)] | rw [mwp_reify_own (by simp (disch := first | omega | decide) only [go_sem, f0, peekL, reifyL_nil, reifyL_cons, reify_v]; rfl)] | rw [peek_frz (by simp (disch := first | omega | decide) only [go_sem, f0, peekL, reifyL_nil, reifyL_cons, reify_v]; rfl)] | rw [reify_frz (by simp (disch := first | omega | decide) only [go_sem, f0, peekL, reifyL_nil, reifyL_cons, reify_v]; rfl)]); (try rw [sub_full (by first | rfl | (simp only [List.length_map, List.length_replicate]; done) | (simp; done) | (simp; omega))])); (try simp (disch := first | omega | decide) only [go_sem, f0, peekL, reifyL_nil, reifyL_cons, reify_v]); ((first | rw [peek_own (by simp (disch := first | omega | decide) only [go_sem, f0, peekL, reifyL_nil, reifyL_cons, reify_v]; rfl)] | rw [mwp_reify_own (by simp only [go_sem, f0, peekL, reifyL_nil, reifyL_cons, reify_v]; rfl)] | rw [mwp_reify_own (by simp (disch := first | omega | decide) only [go_sem, f0, peekL, reifyL_nil, reifyL_cons, reify_v]; rfl)] | rw [peek_frz (by simp (disch := first | omega | decide) only [go_sem, f0, peekL, reifyL_nil, reifyL_cons, reify_v]; rfl)] | rw [reify_frz (by simp (disch := first | omega | decide) only [go_sem, f0, peekL, reifyL_nil, reifyL_cons, reify_v]; rfl)]); (try rw [sub_full (by first | rfl | (simp only [List.length_map, List.length_replicate]; done) | (simp; done) | (simp; omega))])); exact hQ) | (((first | rw [peek_own (by simp (disch := first | omega | decide) only [go_sem, f0, peekL, reifyL_nil, reifyL_cons, reify_v]; rfl)] | rw [mwp_reify_own (by simp only [go_sem, f0, peekL, reifyL_nil, reifyL_cons, reify_v]; rfl)] | rw [mwp_reify_own (by simp (disch := first | omega | decide) only [go_sem, f0, peekL, reifyL_nil, reifyL_cons, reify_v]; rfl)] | rw [peek_frz (by simp (disch := first | omega | decide) only [go_sem, f0, peekL, reifyL_nil, reifyL_cons, reify_v]; rfl)] | rw [reify_frz (by simp (disch := first | omega | decide) only [go_sem, f0, peekL, reifyL_nil, reifyL_cons, reify_v]; rfl)]); (try rw [sub_full (by first | rfl | (simp only [List.length_map, List.length_replicate]; done) | (simp; done) | (simp; omega))])); simp (disch := first | omega | decide) only [go_sem, f0, peekL, reifyL_nil, reifyL_cons, reify_v]; exact hQ))) | ((try simp only [opn_agg, opn_own, opn_v]); (try simp only [List.drop_zero, List.drop_succ_cons, List.take_succ_cons, List.take_zero]); (repeat (first | rw [mwp_peekL_agg] | rw [mwp_peekL_v] | rw [mwp_peekL_arr (by simp only [go_sem, f0]; rfl)] | rw [mwp_peekL_arr (by simp (disch := first | omega | decide) only [go_sem, f0]; rfl)] | rw [mwp_peekL_frz (by simp only [go_sem, f0]; rfl)] | rw [mwp_peekL_frz (by simp (disch := first | omega | decide) only [go_sem, f0]; rfl)] | rw [mwp_peekL_nil] | rw [mwp_reifyL_agg] | rw [mwp_reifyL_v] | rw [mwp_reifyL_arr (by simp only [go_sem, f0]; rfl)] | rw [mwp_reifyL_arr (by simp (disch := first | omega | decide) only [go_sem, f0]; rfl)] | rw [mwp_reifyL_frz (by simp only [go_sem, f0]; rfl)] | rw [mwp_reifyL_frz (by simp (disch := first | omega | decide) only [go_sem, f0]; rfl)] | rw [mwp_reifyL_nil])); (repeat (rw [sub_full (by first | rfl | (simp only [List.length_map, List.length_replicate]; done) | (simp; done) | (simp; omega))])); exact hQ)
  ·exact good_Clone _ _ (by omega) hz
  ·simp [-List.map_take, -List.map_drop, -List.map_append, -List.map_replicate, -List.reduceReplicate, noPtrL, noPtr, noPtrL_bsl, noPtrL_map, sub]
  ·rw [resOf_own1 (by first | (simp (disch := decide) only [mset_ne, hr]; done) | simp [Mem.set, hr])]
   exact hK _
 apply aops_step (by decide) rfl
 ·intro K hK
  simp (disch := first | omega | decide) only [go_sem, f0, act_build_t ti120 pl120, List.map]
  simp [-List.map_take, -List.map_drop, fillL, okOne, cellishAV, Value.oneCell', cellsL, cellsOf, setAt, M.bind, Mwp, mset_same, Obj.isArr]
  exact hK _
 apply aops_step (by decide) rfl
 ·intro K hK
  simp (disch := first | omega | decide) only [go_sem, f0, act_box_g ti120, List.map]
  simp (disch := first | omega | decide) only [go_sem, f0, List.map, cellsL, reifyL_nil, reifyL_cons, reify_v]
  (repeat (rw [mwp_reify_own (by simp (disch := first | omega | decide) only [go_sem, f0, List.map, cellsL, reifyL_nil, reifyL_cons, reify_v]; rfl)]; (try simp (disch := first | omega | decide) only [go_sem, f0, List.map, cellsL, reifyL_nil, reifyL_cons, reify_v])))
  rw [if_pos (by constructor <;> rfl), mwp_newG]
  exact hK _
 iterate 1 (apply aops_step (by decide) rfl; · (intro K hK; simp (disch := first | omega | decide) only [go_sem, f0]; exact hK _))
 refine aops_nil ?_
 refine AW.ret ?_
 refine ⟨.inr rfl, ?_⟩
 refine leaves_tmp1 2 rfl ?_ (by simp [sub, List.take_of_length_le, Mem.set, hG])
 simp (disch := first | omega | decide) only [go_sem, f0]
 all_goals simp [hG, Mem.set]
theorem good_Wrong (nil : Bool) (l : List (BitVec 8)) (w : Bool) (hl : l.length ≤ 140737488355000) (hz : nil = true → l = []) : Good Try.prog 77 [(.gp 0 0, false)] [[.sl 1 (nil) (bsl (l)), .b (w)]] [(.b w, false)] [[.sl 1 (nil) (bsl (l)), .b (w)]] := by
 refine good_of_body2 11 Try.func77 rfl rfl rfl (by simp) ?_
 intro s m ha hr hv hG
 have f0 : s 0 = .v (.gp 0 0) := ha 0 _ rfl
 clear ha
 refine AW.sr (cfg := cfg) ?_
 iterate 1 (apply aops_step (by decide) rfl; · (intro K hK; simp (disch := first | omega | decide) only [go_sem, f0]; exact hK _))
 refine aops_nil ?_
 refine AW.sr (cfg := cfg) ?_
 iterate 3 (apply aops_step (by decide) rfl; · (intro K hK; simp (disch := first | omega | decide) only [go_sem, f0, bin_eql_p0 u69, bin_eql_pg u69]; exact hK _))
 apply aops_merge' (by decide) (by exact want_of (d := 5) rfl (by simp only [go_sem, f0, opn_cond]; rfl))
 ·intro hc K hK
  simp (disch := first | omega | decide) only [go_sem, f0, opn_cond, hc, if_true]
  exact hK _
 apply aops_merge' (by decide) (by exact want_of (d := 5) rfl (by simp (disch := first | omega | decide) only [go_sem, f0, opn_cond]; rfl))
 ·intro hc K hK
  simp (disch := first | omega | decide) only [go_sem, f0, opn_cond, hc, if_true]
  exact hK _
 apply aops_merge' (by decide) (by exact want_of (d := 5) rfl (by simp (disch := first | omega | decide) only [go_sem, f0, opn_cond]; rfl))
 ·intro hc K hK
  simp (disch := first | omega | decide) only [go_sem, f0, opn_cond, hc, if_true, act_fieldAddr_t fo120_1]
  skip
  exact hK _
 apply aops_merge' (by decide) (by exact want_of (d := 5) rfl (by simp (disch := first | omega | decide) only [go_sem, f0, opn_cond]; rfl))
 ·intro hc K hK
  simp (disch := first | omega | decide) only [go_sem, f0, opn_cond, hc, if_true, act_load_t ti4]
  rw [mwp_load_g1 (by (rw [hG]; rfl)) (by rfl)]
  exact hK _
 iterate 2 (apply aops_step (by decide) rfl; · (intro K hK; simp (disch := first | omega | decide) only [go_sem, f0]; exact hK _))
 refine aops_nil ?_
 refine AW.ret ?_
 refine ⟨.inr rfl, ?_⟩
 refine leaves_tmp1 2 rfl ?_ (by exact hG)
 simp (disch := first | omega | decide) only [go_sem, f0]
 all_goals rfl
theorem good_Done (nil : Bool) (l : List (BitVec 8)) (w : Bool) (hl : l.length ≤ 140737488355000) (hz : nil = true → l = []) : Good Try.prog 36 [(.gp 0 0, false)] [[.sl 1 (nil) (bsl (l)), .b (w)]] [(.b (!w && decide ((l.length : Int) = 0)), false)] [[.sl 1 (nil) (bsl (l)), .b (w)]] := by
 refine good_of_body2 14 Try.func36 rfl rfl rfl (by simp) ?_
 intro s m ha hr hv hG
 have f0 : s 0 = .v (.gp 0 0) := ha 0 _ rfl
 clear ha
 refine AW.sr (cfg := cfg) ?_
 iterate 1 (apply aops_step (by decide) rfl; · (intro K hK; simp (disch := first | omega | decide) only [go_sem, f0]; exact hK _))
 refine aops_nil ?_
 refine AW.sr (cfg := cfg) ?_
 iterate 1 (apply aops_step (by decide) rfl; · (intro K hK; simp (disch := first | omega | decide) only [go_sem, f0]; exact hK _))
 apply aops_step (by decide) rfl
 ·intro K hK
  simp (disch := first | omega | decide) only [go_sem, f0, act_call, List.map]
  apply mwp_call_g rfl rfl rfl
  ·intro Q hQ
   (simp (disch := first | omega | decide) only [go_sem, f0, peekL, reifyL_nil, reifyL_cons, reify_v]; (exact hQ))
  ·exact hG
  ·exact good_Wrong _ _ _ (by omega) hz
  ·simp (disch := first | omega | decide) only [go_sem, f0]
   exact hK _
 iterate 2 (apply aops_step (by decide) rfl; · (intro K hK; simp (disch := first | omega | decide) only [go_sem, f0]; exact hK _))
 apply aops_merge' (by decide) (by exact want_of (d := 6) rfl (by simp only [go_sem, f0, opn_cond]; rfl))
 ·intro hc K hK
  simp (disch := first | omega | decide) only [go_sem, f0, opn_cond, hc, if_true]
  exact hK _
 apply aops_merge' (by decide) (by exact want_of (d := 6) rfl (by simp (disch := first | omega | decide) only [go_sem, f0, opn_cond]; rfl))
 ·intro hc K hK
  simp (disch := first | omega | decide) only [go_sem, f0, opn_cond, hc, if_true]
  exact hK _
 apply aops_merge' (by decide) (by exact want_of (d := 6) rfl (by simp (disch := first | omega | decide) only [go_sem, f0, opn_cond]; rfl))
 ·intro hc K hK
  simp (disch := first | omega | decide) only [go_sem, f0, opn_cond, hc, if_true, act_fieldAddr_t fo120_0]
  skip
  exact hK _
 apply aops_merge' (by decide) (by exact want_of (d := 6) rfl (by simp (disch := first | omega | decide) only [go_sem, f0, opn_cond]; rfl))
 ·intro hc K hK
  simp (disch := first | omega | decide) only [go_sem, f0, opn_cond, hc, if_true, act_load_t ti22]
  rw [mwp_load_g1 (by rfl) (by rfl)]
  exact hK _
 apply aops_merge' (by decide) (by exact want_of (d := 6) rfl (by simp (disch := first | omega | decide) only [go_sem, f0, opn_cond]; rfl))
 ·intro hc K hK
  simp (disch := first | omega | decide) only [go_sem, f0, opn_cond, hc, if_true, List.map, List.length_map, aops_len u22]
  exact hK _
 apply aops_merge' (by decide) (by exact want_of (d := 6) rfl (by simp (disch := first | omega | decide) only [go_sem, f0, opn_cond]; rfl))
 ·intro hc K hK
  simp (disch := first | omega | decide) only [go_sem, f0, opn_cond, hc, if_true]
  exact hK _
 iterate 2 (apply aops_step (by decide) rfl; · (intro K hK; simp (disch := first | omega | decide) only [go_sem, f0]; exact hK _))
 refine aops_nil ?_
 refine AW.ret ?_
 refine ⟨.inr rfl, ?_⟩
 refine leaves_tmp1 2 rfl ?_ (by rfl)
 simp (disch := first | omega | decide) only [go_sem, f0]
 all_goals first | done | rfl | (simp; done)
theorem tk_w (nil : Bool) (l : List (BitVec 8)) (n : Int) : tkF nil l true n = true ∧ tkV l true n = [] ∧ tkL l true n = l ∧ tkW l true n = true := ⟨rfl, rfl, rfl, rfl⟩
theorem tk_far {nil : Bool} {l : List (BitVec 8)} {n : Int} (h : n > (l.length : Int)) : tkF nil l false n = true ∧ tkV l false n = [] ∧ tkL l false n = l ∧ tkW l false n = true := by
  simp [tkF, tkV, tkL, tkW, h]
theorem tk_ok {nil : Bool} {l : List (BitVec 8)} {n : Int} (h : ¬ n > (l.length : Int)) : tkF nil l false n = nil ∧ tkV l false n = l.take n.toNat ∧ tkL l false n = l.drop n.toNat ∧ tkW l false n = false := by
  simp [tkF, tkV, tkL, tkW, h]
theorem good_take (nil : Bool) (l : List (BitVec 8)) (w : Bool) (hl : l.length ≤ 140737488355000) (hz : nil = true → l = []) (n : Int) (hn : 0 ≤ n ∧ n ≤ 9223372036854775807) : Good Try.prog 76 [(.gp 0 0, false), (i64 n, false)] [[.sl 1 (nil) (bsl (l)), .b (w)]] [(.sl 1 (tkF nil l w n) (bsl (tkV l w n)), false)] [[.sl 1 (nil) (bsl (tkL l w n)), .b (tkW l w n)]] := by
 refine good_of_body3 41 Try.func76 rfl rfl rfl (by simp) ?_
 intro s m ha hr hv hG
 have f0 : s 0 = .v (.gp 0 0) := ha 0 _ rfl
 have f1 : s 1 = .v (i64 n) := ha 1 _ rfl
 clear ha
 refine AW.sr (cfg := cfg) ?_
 iterate 1 (apply aops_step (by decide) rfl; · (intro K hK; simp (disch := first | omega | decide) only [go_sem, f0, f1, sz22, Bool.false_or]; exact hK _))
 refine aops_nil ?_
 refine AW.seq ?_
 refine AW.sr (cfg := cfg) ?_
 iterate 5 (apply aops_step (by decide) rfl; · (intro K hK; simp (disch := first | omega | decide) only [go_sem, f0, f1, bin_eql_p0 u69, bin_eql_pg u69, Bool.false_or]; exact hK _))
 apply aops_step (by decide) rfl
 ·intro K hK
  simp (disch := first | omega | decide) only [go_sem, f0, f1, act_fieldAddr_t fo120_1, List.map, Bool.false_or]
  skip
  exact hK _
 apply aops_step (by decide) rfl
 ·intro K hK
  simp (disch := first | omega | decide) only [go_sem, f0, f1, act_load_t ti4, List.map, Bool.false_or]
  rw [mwp_load_g1 (by (simp only [mset_G, hG]; rfl)) (by rfl)]
  exact hK _
 iterate 1 (apply aops_step (by decide) rfl; · (intro K hK; simp (disch := first | omega | decide) only [go_sem, f0, f1, Bool.false_or]; exact hK _))
 refine aops_nil ?_
 apply AW.cond
 ·(simp only [go_sem, f0, f1, Bool.false_or]; rfl)
 case ht =>
  intro hb
  try simp only [bo1, bo2, bo3, bo4, bo5, bo6] at hb
  have hbt13 := hb
  refine AW.sr (cfg := cfg) ?_
  iterate 1 (apply aops_step (by decide) rfl; · (intro K hK; simp (disch := first | omega | decide) only [go_sem, f0, f1, sz22, Bool.false_or]; exact hK _))
  refine aops_nil ?_
  refine AW.ret ?_
  refine ⟨.inr rfl, ?_⟩
  cases w
  all_goals first | (exfalso; simp at hbt13; done) | skip
  all_goals (obtain ⟨e1, e2, e3, e4⟩ := tk_w nil l n; rw [e1, e2, e3, e4]; refine ⟨_, nilEq_nil (nilEq_refl _), leaves_frz1 4 rfl (by simp (disch := first | omega | decide) only [go_sem, f0, f1, Bool.false_or] <;> rfl) (by simp (disch := first | omega | decide) only [go_sem, f0, f1, Bool.false_or] <;> rfl) rfl (by exact hG)⟩)
 case hf =>
  intro hb
  try simp only [bo1, bo2, bo3, bo4, bo5, bo6] at hb
  have hbt13 := hb
  refine AW.skip ?_
  refine AW.seq ?_
  refine AW.sr (cfg := cfg) ?_
  iterate 3 (apply aops_step (by decide) rfl; · (intro K hK; simp (disch := first | omega | decide) only [go_sem, f0, f1, Bool.false_or]; exact hK _))
  apply aops_step (by decide) rfl
  ·intro K hK
   simp (disch := first | omega | decide) only [go_sem, f0, f1, act_fieldAddr_t fo120_0, List.map, Bool.false_or]
   skip
   exact hK _
  apply aops_step (by decide) rfl
  ·intro K hK
   simp (disch := first | omega | decide) only [go_sem, f0, f1, act_load_t ti22, List.map, Bool.false_or]
   rw [mwp_load_g1 (by (simp only [mset_G, hG]; rfl)) (by rfl)]
   exact hK _
  iterate 2 (apply aops_step (by decide) rfl; · (intro K hK; simp (disch := first | omega | decide) only [go_sem, f0, f1, List.map, List.length_map, aops_len u22, Bool.false_or]; exact hK _))
  refine aops_nil ?_
  apply AW.cond
  ·(simp only [go_sem, f0, f1, Bool.false_or]; rfl)
  case ht =>
   intro hb
   try simp only [bo1, bo2, bo3, bo4, bo5, bo6] at hb
   have hbt20 := hb
   refine AW.sr (cfg := cfg) ?_
   iterate 2 (apply aops_step (by decide) rfl; · (intro K hK; simp (disch := first | omega | decide) only [go_sem, f0, f1, Bool.false_or]; exact hK _))
   apply aops_step (by decide) rfl
   ·intro K hK
    simp (disch := first | omega | decide) only [go_sem, f0, f1, act_fieldAddr_t fo120_1, List.map, Bool.false_or]
    skip
    exact hK _
   apply aops_step0 rfl
   ·intro K hK
    simp (disch := first | omega | decide) only [go_sem, f0, f1, act_store_t ti4, List.map, Bool.false_or]
    rw [mwp_store_g1 (by (simp only [mset_G, hG]; rfl)) (by simp) rfl rfl]
    try simp only [setAt, cellsL, cellsOf_agg, cellsOf_base, List.map_cons, List.map_nil, List.set_cons_zero, List.set_cons_succ, Nat.reduceAdd, Nat.zero_add, hG]
    exact hK _
   refine aops_nil ?_
   refine AW.sr (cfg := cfg) ?_
   iterate 1 (apply aops_step (by decide) rfl; · (intro K hK; simp (disch := first | omega | decide) only [go_sem, f0, f1, sz22, Bool.false_or]; exact hK _))
   refine aops_nil ?_
   refine AW.ret ?_
   refine ⟨.inr rfl, ?_⟩
   cases w
   all_goals first | (exfalso; simp at hbt13; done) | skip
   all_goals (have z : n > (l.length : Int) := hbt20; obtain ⟨e1, e2, e3, e4⟩ := tk_far (nil := nil) z; rw [e1, e2, e3, e4]; refine ⟨_, nilEq_nil (nilEq_refl _), leaves_frz1 4 rfl (by simp (disch := first | omega | decide) only [go_sem, f0, f1, Bool.false_or] <;> rfl) (by simp (disch := first | omega | decide) only [go_sem, f0, f1, Bool.false_or] <;> rfl) rfl (by (simp only [mset_G, hG]; rfl))⟩)
  case hf =>
   intro hb
   try simp only [bo1, bo2, bo3, bo4, bo5, bo6] at hb
   have hbt20 := hb
   refine AW.skip ?_
   refine AW.sr (cfg := cfg) ?_
   iterate 2 (apply aops_step (by decide) rfl; · (intro K hK; simp (disch := first | omega | decide) only [go_sem, f0, f1, Bool.false_or]; exact hK _))
   apply aops_step (by decide) rfl
   ·intro K hK
    simp (disch := first | omega | decide) only [go_sem, f0, f1, act_fieldAddr_t fo120_0, List.map, Bool.false_or]
    skip
    exact hK _
   apply aops_step (by decide) rfl
   ·intro K hK
    simp (disch := first | omega | decide) only [go_sem, f0, f1, act_load_t ti22, List.map, Bool.false_or]
    rw [mwp_load_g1 (by (simp only [mset_G, hG]; rfl)) (by rfl)]
    exact hK _
   iterate 4 (apply aops_step (by decide) rfl; · (intro K hK; simp (disch := first | omega | decide) only [go_sem, f0, f1, act_slice_s u22 ti5, Bool.false_or]; exact hK _))
   refine aops_nil ?_
   refine AW.sr (cfg := cfg) ?_
   iterate 3 (apply aops_step (by decide) rfl; · (intro K hK; simp (disch := first | omega | decide) only [go_sem, f0, f1, Bool.false_or]; exact hK _))
   apply aops_step (by decide) rfl
   ·intro K hK
    simp (disch := first | omega | decide) only [go_sem, f0, f1, act_fieldAddr_t fo120_0, List.map, Bool.false_or]
    skip
    exact hK _
   apply aops_step (by decide) rfl
   ·intro K hK
    simp (disch := first | omega | decide) only [go_sem, f0, f1, act_load_t ti22, List.map, Bool.false_or]
    rw [mwp_load_g1 (by (simp only [mset_G, hG]; rfl)) (by rfl)]
    exact hK _
   iterate 3 (apply aops_step (by decide) rfl; · (intro K hK; simp (disch := first | omega | decide) only [go_sem, f0, f1, act_slice_s u22 ti5, Bool.false_or]; exact hK _))
   apply aops_step (by decide) rfl
   ·intro K hK
    simp (disch := first | omega | decide) only [go_sem, f0, f1, act_fieldAddr_t fo120_0, List.map, Bool.false_or]
    skip
    exact hK _
   apply aops_step0 rfl
   ·intro K hK
    simp (disch := first | omega | decide) only [go_sem, f0, f1, act_store_t ti22, List.map, Bool.false_or]
    rw [mwp_store_g1 (by (simp only [mset_G, hG]; rfl)) (by simp) rfl rfl]
    try simp only [setAt, cellsL, cellsOf_agg, cellsOf_base, List.map_cons, List.map_nil, List.set_cons_zero, List.set_cons_succ, Nat.reduceAdd, Nat.zero_add, hG]
    exact hK _
   refine aops_nil ?_
   refine AW.sr (cfg := cfg) ?_
   iterate 2 (apply aops_step (by decide) rfl; · (intro K hK; simp (disch := first | omega | decide) only [go_sem, f0, f1, Bool.false_or]; exact hK _))
   refine aops_nil ?_
   refine AW.ret ?_
   refine ⟨.inr rfl, ?_⟩
   cases w
   all_goals first | (exfalso; simp at hbt13; done) | skip
   all_goals (have z : ¬ n > (l.length : Int) := hbt20; obtain ⟨e1, e2, e3, e4⟩ := tk_ok (nil := nil) z; rw [e1, e2, e3, e4]; refine leavesN (leaves_tmp1 4 rfl (by simp (disch := first | omega | decide) only [go_sem, f0, f1, Bool.false_or] <;> rfl) (by (simp only [mset_G, hG]; rfl))))
theorem rn_no {nil : Bool} {l : List (BitVec 8)} {w : Bool} {k : Int} (h : mayW k = false) : rnV l w k = 0 ∧ rnL l w k = l ∧ rnW l w k = true := by simp [rnV, rnL, rnW, h]
theorem rn_is {l : List (BitVec 8)} {w : Bool} {k : Int} (h : mayW k = true) : rnV l w k = numV (tkV l w k) ∧ rnL l w k = tkL l w k ∧ rnW l w k = tkW l w k := by simp [rnV, rnL, rnW, h]
theorem good_NumR (nil : Bool) (l : List (BitVec 8)) (w : Bool) (hl : l.length ≤ 140737488355000) (hz : nil = true → l = []) (k : Int) : Good Try.prog 34 [(.gp 0 0, false), (i64 k, false)] [[.sl 1 (nil) (bsl (l)), .b (w)]] [(.i .u64 (rnV l w k), false)] [[.sl 1 (nil) (bsl (rnL l w k)), .b (rnW l w k)]] := by
 refine good_of_body3 31 Try.func34 rfl rfl rfl (by simp) ?_
 intro s m ha hr hv hG
 have f0 : s 0 = .v (.gp 0 0) := ha 0 _ rfl
 have f1 : s 1 = .v (i64 k) := ha 1 _ rfl
 clear ha
 refine AW.sr (cfg := cfg) ?_
 iterate 1 (apply aops_step (by decide) rfl; · (intro K hK; simp (disch := first | omega | decide) only [go_sem, f0, f1, List.take_length]; exact hK _))
 refine aops_nil ?_
 refine AW.seq ?_
 refine AW.sr (cfg := cfg) ?_
 iterate 1 (apply aops_step (by decide) rfl; · (intro K hK; simp (disch := first | omega | decide) only [go_sem, f0, f1, List.take_length]; exact hK _))
 apply aops_step (by decide) rfl
 ·intro K hK
  simp (disch := first | omega | decide) only [go_sem, f0, f1, act_call, List.map, List.take_length]
  apply mwp_call_s rfl rfl rfl
  ·intro Q hQ
   (simp (disch := first | omega | decide) only [go_sem, f0, f1, peekL, reifyL_nil, reifyL_cons, reify_v, List.take_length]; (exact hQ))
  ·exact good_mayO _
  ·simp [-List.map_take, -List.map_drop, -List.map_append, -List.map_replicate, -List.reduceReplicate, noPtrL, noPtr, noPtrL_bsl, noPtrL_map, sub]
  ·rfl
  ·exact hK _
 iterate 1 (apply aops_step (by decide) rfl; · (intro K hK; simp (disch := first | omega | decide) only [go_sem, f0, f1, List.take_length]; exact hK _))
 refine aops_nil ?_
 apply AW.cond
 ·(simp only [go_sem, f0, f1, List.take_length]; rfl)
 case ht =>
  intro hb
  try simp only [bo1, bo2, bo3, bo4, bo5, bo6] at hb
  have hbt10 := hb
  refine AW.seq ?_
  refine AW.sr (cfg := cfg) ?_
  iterate 2 (apply aops_step (by decide) rfl; · (intro K hK; simp (disch := first | omega | decide) only [go_sem, f0, f1, bin_neq_p0 u69, bin_neq_pg u69, List.take_length]; exact hK _))
  refine aops_nil ?_
  apply AW.cond
  ·(simp only [go_sem, f0, f1, List.take_length]; rfl)
  case hf => intro hb; simp at hb
  case ht =>
  intro hb
  have hbt12 := hb
  refine AW.region (cfg := cfg) ?_
  iterate 2 (apply aops_step (by decide) rfl; · (intro K hK; simp (disch := first | omega | decide) only [go_sem, f0, f1, List.take_length]; exact hK _))
  apply aops_step (by decide) rfl
  ·intro K hK
   simp (disch := first | omega | decide) only [go_sem, f0, f1, act_fieldAddr_t fo120_1, List.map, List.take_length]
   skip
   exact hK _
  apply aops_step0 rfl
  ·intro K hK
   simp (disch := first | omega | decide) only [go_sem, f0, f1, act_store_t ti4, List.map, List.take_length]
   rw [mwp_store_g1 (by (rw [hG]; rfl)) (by simp) rfl rfl]
   try simp only [setAt, cellsL, cellsOf_agg, cellsOf_base, List.map_cons, List.map_nil, List.set_cons_zero, List.set_cons_succ, Nat.reduceAdd, Nat.zero_add, hG]
   exact hK _
  refine aops_nil ?_
  refine AW.sr (cfg := cfg) ?_
  iterate 1 (apply aops_step (by decide) rfl; · (intro K hK; simp (disch := first | omega | decide) only [go_sem, f0, f1, List.take_length]; exact hK _))
  refine aops_nil ?_
  refine AW.ret ?_
  refine ⟨.inr rfl, ?_⟩
  all_goals (have hw : mayW k = false := (by simpa using hbt10); obtain ⟨e1, e2, e3⟩ := rn_no (nil := nil) (l := l) (w := w) hw; rw [e1, e2, e3]; refine leavesN (leaves_tmp1 4 rfl (by simp (disch := first | omega | decide) only [go_sem, f0, f1, List.take_length] <;> rfl) (by rfl)))
 case hf =>
  intro hb
  try simp only [bo1, bo2, bo3, bo4, bo5, bo6] at hb
  have hbt10 := hb
  refine AW.skip ?_
  refine AW.sr (cfg := cfg) ?_
  iterate 1 (apply aops_step (by decide) rfl; · (intro K hK; simp (disch := first | omega | decide) only [go_sem, f0, f1, List.take_length]; exact hK _))
  refine aops_nil ?_
  refine AW.seq ?_
  refine AW.seq ?_
  have hw : mayW k = true := by simpa using hbt10
  have hw2 := mayW_range hw
  have hkl := tkV_length l w k
  refine AW.region (cfg := cfg) ?_
  iterate 2 (apply aops_step (by decide) rfl; · (intro K hK; simp (disch := first | omega | decide) only [go_sem, f0, f1, List.take_length]; exact hK _))
  apply aops_step (by decide) rfl
  ·intro K hK
   simp (disch := first | omega | decide) only [go_sem, f0, f1, act_call, List.map, List.take_length]
   apply mwp_call_g rfl rfl rfl
   ·intro Q hQ
    (simp (disch := first | omega | decide) only [go_sem, f0, f1, peekL, reifyL_nil, reifyL_cons, reify_v, List.take_length]; (exact hQ))
   ·exact hG
   ·exact good_take nil l w (by omega) hz _ (by omega)
   ·simp (disch := first | omega | decide) only [go_sem, f0, f1, List.take_length]
    exact hK _
  iterate 2 (apply aops_step (by decide) rfl; · (intro K hK; simp (disch := first | omega | decide) only [go_sem, f0, f1, List.map, List.length_map, aops_len u22, List.take_length]; exact hK _))
  refine aops_nil ?_
  refine AW.block ?_
  refine AW.forN (fun j σ => ∃ s m, σ = ⟨31, s, m⟩ ∧ s 5 = .v (.i .u64 (numV ((tkV l w k).take j))) ∧ s 18 = .v (.sl 1 (tkF nil l w k) (bsl (tkV l w k))) ∧ s 19 = .v (i64 ((tkV l w k).length : Int)) ∧ s 20 = .v (i64 (j : Int)) ∧ m.G = [[.sl 1 (nil) (bsl (tkL l w k)), .b (tkW l w k)]]) ((tkV l w k).length) ?_ ?_ ?_
  ·refine ⟨_, _, rfl, ?_, ?_, ?_, ?_, (by rfl)⟩ <;> try simp (disch := first | omega | decide) only [go_sem, f0, f1, List.take_length]
   all_goals rfl
  ·clear f0 f1 hG
   rintro j σ hj ⟨s, m, rfl, f5, f18, f19, f20, hG⟩
   refine AW.sr (cfg := cfg) ?_
   iterate 1 (apply aops_step (by decide) rfl; · (intro K hK; simp (disch := first | omega | decide) only [go_sem, f5, f18, f19, f20, List.take_length]; exact hK _))
   refine aops_nil ?_
   refine AW.seq ?_
   apply AW.cond
   ·(simp only [go_sem, f5, f18, f19, f20, List.take_length]; rfl)
   case hf => intro hb; (simp at hb; omega)
   case ht =>
   intro hb
   have hbt21 := hb
   refine AW.skip ?_
   refine AW.seq ?_
   refine AW.block ?_
   refine AW.sr (cfg := cfg) ?_
   apply aops_step (by decide) rfl
   ·intro K hK
    simp (disch := first | omega | decide) only [go_sem, f5, f18, f19, f20, act_indexAddr_s u22 ti5, List.map, List.take_length]
    skip
    exact hK _
   apply aops_step (by decide) rfl
   ·intro K hK
    simp (disch := first | omega | decide) only [go_sem, f5, f18, f19, f20, act_load_t ti5, List.map, List.take_length]
    skip
    exact hK _
   iterate 1 (apply aops_step (by decide) rfl; · (intro K hK; simp (disch := first | omega | decide) only [go_sem, f5, f18, f19, f20, List.take_length]; exact hK _))
   refine aops_nil ?_
   have hv := numV_lt (b := (tkV l w k).take j) (by simp; omega)
   refine AW.region (cfg := cfg) ?_
   iterate 6 (apply aops_step (by decide) rfl; · (intro K hK; simp (disch := first | omega | decide) only [go_sem, f5, f18, f19, f20, act_convI u5 u71, List.take_length]; exact hK _))
   refine aops_nil ?_
   refine AW.region (cfg := cfg) ?_
   iterate 2 (apply aops_step (by decide) rfl; · (intro K hK; simp (disch := first | omega | decide) only [go_sem, f5, f18, f19, f20, List.take_length]; exact hK _))
   refine aops_nil ?_
   refine ⟨_, _, rfl, ?_, ?_, ?_, ?_, (by exact hG)⟩ <;> try simp (disch := first | omega | decide) only [go_sem, f5, f18, f19, f20, List.take_length]
   all_goals first | rfl | (rw [numV_take hj]; done)
  ·clear f0 f1 hG
   rintro σ ⟨s, m, rfl, f5, f18, f19, f20, hG⟩
   refine AW.sr (cfg := cfg) ?_
   iterate 1 (apply aops_step (by decide) rfl; · (intro K hK; simp (disch := first | omega | decide) only [go_sem, f5, f18, f19, f20, List.take_length]; exact hK _))
   refine aops_nil ?_
   refine AW.seq ?_
   apply AW.cond
   ·(simp only [go_sem, f5, f18, f19, f20, List.take_length]; rfl)
   case ht => intro hb; (simp at hb; done)
   case hf =>
   intro hb
   have hbt21 := hb
   refine AW.exit ?_
   refine AW.sr (cfg := cfg) ?_
   iterate 2 (apply aops_step (by decide) rfl; · (intro K hK; simp (disch := first | omega | decide) only [go_sem, f5, f18, f19, f20, List.take_length]; exact hK _))
   refine aops_nil ?_
   refine AW.ret ?_
   refine ⟨.inr rfl, ?_⟩
   all_goals (obtain ⟨e1, e2, e3⟩ := rn_is (l := l) (w := w) hw; rw [e1, e2, e3]; refine leavesN (leaves_tmp1 4 rfl (by simp (disch := first | omega | decide) only [go_sem, f5, f18, f19, f20, List.take_length] <;> rfl) (by exact hG)))
theorem r_bad {l : List (BitVec 8)} {at_ : Nat} {w : Bool} {k : Int} (h : rBad l at_ w k = true) : rV l at_ w k = 0 ∧ rA l at_ w k = at_ := by simp [rV, rA, h]
theorem r_ok {l : List (BitVec 8)} {at_ : Nat} {w : Bool} {k : Int} (h : rBad l at_ w k = false) : rV l at_ w k = numV ((l.drop at_).take k.toNat) ∧ rA l at_ w k = at_ + k.toNat := by simp [rV, rA, h]
theorem drop_get {l : List (BitVec 8)} {a j n : Nat} (h : j < ((l.drop a).take n).length) : ((l.drop a).take n)[j] = l[a + j]'(by simp at h; omega) := by simp
theorem good_refReadNum (nil : Bool) (l : List (BitVec 8)) (at_ : Nat) (w : Bool) (hl : l.length ≤ 140737488355000) (hat : at_ ≤ l.length) (k : Int) : Good Try.prog 79 [(.agg [.sl 1 nil (bsl l), i64 (at_ : Int), .b w], false), (i64 k, false)] [] [(.agg [.sl 1 nil (bsl l), i64 (rA l at_ w k : Int), .b (rBad l at_ w k)], false), (.i .u64 (rV l at_ w k), false)] [] := by
 refine good_of_body2 54 Try.func79 rfl rfl rfl (by simp) ?_
 intro s m ha hr hv hG
 have f0 : s 0 = .v (.agg [.sl 1 nil (bsl l), i64 (at_ : Int), .b w]) := ha 0 _ rfl
 have f1 : s 1 = .v (i64 k) := ha 1 _ rfl
 clear ha
 refine AW.sr (cfg := cfg) ?_
 apply aops_step (by decide) rfl
 ·intro K hK
  simp (disch := first | omega | decide) only [go_sem, f0, f1, act_box_t ti127, List.map]
  rw [settleL_vish _ _ (by rfl)]
  simp (disch := first | omega | decide) only [go_sem, f0, f1, cellsL, List.map, List.length_cons, List.length_nil, Nat.reduceAdd, if_true]
  exact hK _
 apply aops_step (by decide) rfl
 ·intro K hK
  simp (disch := first | omega | decide) only [go_sem, f0, f1, act_alloc_t ti127, List.map]
  exact hK _
 iterate 1 (apply aops_step (by decide) rfl; · (intro K hK; simp (disch := first | omega | decide) only [go_sem, f0, f1]; exact hK _))
 refine aops_nil ?_
 refine AW.seq ?_
 refine AW.sr (cfg := cfg) ?_
 refine aops_fl (by decide) (by decide) fo127_2 ti4 (by simp (disch := first | omega | decide) only [go_sem, f0, f1]; rfl) (by simp (disch := first | omega | decide) only [go_sem, f0, f1]; rfl) (by rfl) ?_
 iterate 1 (apply aops_step (by decide) rfl; · (intro K hK; simp (disch := first | omega | decide) only [go_sem, f0, f1]; exact hK _))
 apply aops_merge' (by decide) (by exact want_of (d := 10) rfl (by simp only [go_sem, f0, f1, opn_cond]; rfl))
 ·intro hc K hK
  simp (disch := first | omega | decide) only [go_sem, f0, f1, opn_cond, hc, if_true]
  exact hK _
 apply aops_merge' (by decide) (by exact want_of (d := 10) rfl (by simp (disch := first | omega | decide) only [go_sem, f0, f1, opn_cond]; rfl))
 ·intro hc K hK
  simp (disch := first | omega | decide) only [go_sem, f0, f1, opn_cond, hc, if_true]
  exact hK _
 iterate 2 (apply aops_step (by decide) rfl; · (intro K hK; simp (disch := first | omega | decide) only [go_sem, f0, f1]; exact hK _))
 apply aops_merge' (by decide) (by exact want_of (d := 14) rfl (by simp only [go_sem, f0, f1, opn_cond]; rfl))
 ·intro hc K hK
  simp (disch := first | omega | decide) only [go_sem, f0, f1, opn_cond, hc, if_true]
  exact hK _
 apply aops_merge' (by decide) (by exact want_of (d := 14) rfl (by simp (disch := first | omega | decide) only [go_sem, f0, f1, opn_cond]; rfl))
 ·intro hc K hK
  simp (disch := first | omega | decide) only [go_sem, f0, f1, opn_cond, hc, if_true]
  exact hK _
 iterate 2 (apply aops_step (by decide) rfl; · (intro K hK; simp (disch := first | omega | decide) only [go_sem, f0, f1]; exact hK _))
 apply aops_merge' (by decide) (by exact want_of (d := 18) rfl (by simp only [go_sem, f0, f1, opn_cond]; rfl))
 ·intro hc K hK
  simp (disch := first | omega | decide) only [go_sem, f0, f1, opn_cond, hc, if_true]
  exact hK _
 refine aops_flm (dg := 18) (by decide) (by decide) (by decide) fo127_0 ti22 rfl (by simp (disch := first | omega | decide) only [go_sem, f0, f1]; rfl) (by simp (disch := first | omega | decide) only [go_sem, f0, f1]; rfl) (by simp (disch := first | omega | decide) only [go_sem, f0, f1]; rfl) (by rfl) ?_
 apply aops_merge' (by decide) (by exact want_of (d := 18) rfl (by simp (disch := first | omega | decide) only [go_sem, f0, f1, opn_cond]; rfl))
 ·intro hc K hK
  simp (disch := first | omega | decide) only [go_sem, f0, f1, opn_cond, hc, if_true, List.map, List.length_map, aops_len u22]
  exact hK _
 refine aops_flm (dg := 18) (by decide) (by decide) (by decide) fo127_1 ti3 rfl (by simp (disch := first | omega | decide) only [go_sem, f0, f1]; rfl) (by simp (disch := first | omega | decide) only [go_sem, f0, f1]; rfl) (by simp (disch := first | omega | decide) only [go_sem, f0, f1]; rfl) (by rfl) ?_
 apply aops_merge' (by decide) (by exact want_of (d := 18) rfl (by simp (disch := first | omega | decide) only [go_sem, f0, f1, opn_cond]; rfl))
 ·intro hc K hK
  have hc2 := hc
  simp only [beq_iff_eq, decide_eq_true_eq, decide_eq_false_iff_not, Bool.or_eq_true, Bool.and_eq_true, Bool.or_eq_false_iff, Bool.and_eq_false_iff] at hc2
  simp (disch := first | omega | decide) only [go_sem, f0, f1, opn_cond, hc, if_true]
  exact hK _
 apply aops_merge' (by decide) (by exact want_of (d := 18) rfl (by simp (disch := first | omega | decide) only [go_sem, f0, f1, opn_cond]; rfl))
 ·intro hc K hK
  simp (disch := first | omega | decide) only [go_sem, f0, f1, opn_cond, hc, if_true]
  exact hK _
 iterate 1 (apply aops_step (by decide) rfl; · (intro K hK; simp (disch := first | omega | decide) only [go_sem, f0, f1]; exact hK _))
 refine aops_nil ?_
 apply AW.cond
 ·(simp only [go_sem, f0, f1]; rfl)
 case ht =>
  intro hb
  try simp only [bo1, bo2, bo3, bo4, bo5, bo6] at hb
  have hbt27 := hb
  refine AW.sr (cfg := cfg) ?_
  apply aops_step (by decide) rfl
  ·intro K hK
   simp (disch := first | omega | decide) only [go_sem, f0, f1, act_fieldAddr_t fo127_2, List.map]
   rw [mwp_fieldAddr_b (by simp (disch := first | omega | decide) only [go_sem, f0, f1]; rfl)]
   exact hK _
  apply aops_step0 rfl
  ·intro K hK
   simp (disch := first | omega | decide) only [go_sem, f0, f1, act_store_t ti4, List.map]
   rw [mwp_store_c (by simp (disch := first | omega | decide) only [go_sem, f0, f1]; rfl) (by rfl) (by rfl) (by rfl) (by simp)]
   try simp only [setAt, cellsL, cellsOf_agg, cellsOf_base, List.map_cons, List.map_nil, List.set_cons_zero, List.set_cons_succ, Nat.reduceAdd, Nat.zero_add, hG]
   exact hK _
  refine aops_nil ?_
  refine AW.sr (cfg := cfg) ?_
  apply aops_step (by decide) rfl
  ·intro K hK
   simp (disch := first | omega | decide) only [go_sem, f0, f1, act_load_t ti127, List.map]
   rw [mwp_load_bs (by simp (disch := first | omega | decide) only [go_sem, f0, f1]; rfl) (by simp [setAt])]
   exact hK _
  apply aops_step0 rfl
  ·intro K hK
   simp (disch := first | omega | decide) only [go_sem, f0, f1, act_store_t ti127, List.map]
   rw [mwp_store_c (by simp (disch := first | omega | decide) only [go_sem, f0, f1]; rfl) (by rfl) (by rfl) (by rfl) (by simp)]
   try simp only [setAt, cellsL, cellsOf_agg, cellsOf_base, List.map_cons, List.map_nil, List.set_cons_zero, List.set_cons_succ, Nat.reduceAdd, Nat.zero_add, hG]
   exact hK _
  iterate 1 (apply aops_step (by decide) rfl; · (intro K hK; simp (disch := first | omega | decide) only [go_sem, f0, f1]; exact hK _))
  refine aops_nil ?_
  refine AW.ret ?_
  refine ⟨.inr rfl, ?_⟩
  refine leaves_mwp2 (rs := [.cell 4 127, .tmp 5]) rfl ?_
  simp (config := {failIfUnchanged := false}) [giveL, srcOne, rehome, freezeN, sub, ti127, upd, opn, aLoad, loadL, giveOne, reify, reifyL, readL, readOne, Mwp, M.bind, Mem.set, setAt, cellsL, hG, f0, f1]
  all_goals (have hb0 : rBad l at_ w k = true := (by simpa [rBad] using hbt27); obtain ⟨e1, e2⟩ := r_bad hb0; simp [hb0, e1, e2]; done)
 case hf =>
  intro hb
  try simp only [bo1, bo2, bo3, bo4, bo5, bo6] at hb
  have hbt27 := hb
  refine AW.skip ?_
  refine AW.seq ?_
  have hb0 : rBad l at_ w k = false := by simpa [rBad] using hbt27
  have hb1 := hb0
  simp [rBad] at hb1
  obtain ⟨e1, e2⟩ := r_ok hb0
  refine AW.region (cfg := cfg) ?_
  iterate 1 (apply aops_step (by decide) rfl; · (intro K hK; simp (disch := first | omega | decide) only [go_sem, f0, f1]; exact hK _))
  refine aops_nil ?_
  refine AW.seq ?_
  refine AW.sr (cfg := cfg) ?_
  iterate 1 (apply aops_step (by decide) rfl; · (intro K hK; simp (disch := first | omega | decide) only [go_sem, f0, f1]; exact hK _))
  refine aops_nil ?_
  refine AW.block ?_
  refine AW.forN (fun j σ => ∃ s m, σ = ⟨54, s, m⟩ ∧ s 1 = .v (i64 k) ∧ s 2 = .lptr (.tmp 2 0) (m.objs (.tmp 2 0)).1 0 ∧ (m.objs (.tmp 2 0)).2 = .box [.v (.sl 1 nil (bsl l)), .v (i64 (at_ : Int)), .v (.b w)] ∧ s 4 = .lptr (.tmp 4 0) (m.objs (.tmp 4 0)).1 0 ∧ (m.objs (.tmp 4 0)).2 = .box [.v (.sl 1 true []), .v (i64 0), .v (.b false)] ∧ s 6 = .v (.i .u64 (numV (((l.drop at_).take k.toNat).take j))) ∧ s 7 = .v (i64 (j : Int)) ∧ m.G = []) (k.toNat) ?_ ?_ ?_
  ·refine ⟨_, _, rfl, ?_, ?_, ?_, ?_, ?_, ?_, ?_, (by exact hG)⟩ <;> try simp (disch := first | omega | decide) only [go_sem, f0, f1]
   all_goals rfl
  ·clear f0 f1 hG
   rintro j σ hj ⟨s, m, rfl, f1, f2, o2, f4, o4, f6, f7, hG⟩
   obtain ⟨g2, o2⟩ : ∃ g, m.objs (.tmp 2 0) = (g, .box [.v (.sl 1 nil (bsl l)), .v (i64 (at_ : Int)), .v (.b w)]) := ⟨_, Prod.ext rfl o2⟩
   rw [o2] at f2
   obtain ⟨g4, o4⟩ : ∃ g, m.objs (.tmp 4 0) = (g, .box [.v (.sl 1 true []), .v (i64 0), .v (.b false)]) := ⟨_, Prod.ext rfl o4⟩
   rw [o4] at f4
   refine AW.seq ?_
   refine AW.sr (cfg := cfg) ?_
   iterate 3 (apply aops_step (by decide) rfl; · (intro K hK; simp (disch := first | omega | decide) only [go_sem, f1, f2, f4, f6, f7, o2, o4]; exact hK _))
   refine aops_nil ?_
   apply AW.cond
   ·(simp only [go_sem, f1, f2, f4, f6, f7, o2, o4]; rfl)
   case hf => intro hb; (simp at hb; omega)
   case ht =>
   intro hb
   have hbt32 := hb
   refine AW.skip ?_
   refine AW.seq ?_
   refine AW.block ?_
   have hlen : ((l.drop at_).take k.toNat).length = k.toNat := by simp; omega
   have hv := numV_lt (b := ((l.drop at_).take k.toNat).take j) (by simp; omega)
   refine AW.region (cfg := cfg) ?_
   iterate 2 (apply aops_step (by decide) rfl; · (intro K hK; simp (disch := first | omega | decide) only [go_sem, f1, f2, f4, f6, f7, o2, o4]; exact hK _))
   refine aops_fl (by decide) (by decide) fo127_0 ti22 (by simp (disch := first | omega | decide) only [go_sem, f1, f2, f4, f6, f7, o2, o4]; rfl) (by simp (disch := first | omega | decide) only [go_sem, f1, f2, f4, f6, f7, o2, o4]; rfl) (by rfl) ?_
   refine aops_fl (by decide) (by decide) fo127_1 ti3 (by simp (disch := first | omega | decide) only [go_sem, f1, f2, f4, f6, f7, o2, o4]; rfl) (by simp (disch := first | omega | decide) only [go_sem, f1, f2, f4, f6, f7, o2, o4]; rfl) (by rfl) ?_
   iterate 2 (apply aops_step (by decide) rfl; · (intro K hK; simp (disch := first | omega | decide) only [go_sem, f1, f2, f4, f6, f7, o2, o4]; exact hK _))
   apply aops_step (by decide) rfl
   ·intro K hK
    simp (disch := first | omega | decide) only [go_sem, f1, f2, f4, f6, f7, o2, o4, act_indexAddr_s u22 ti5, List.map]
    skip
    exact hK _
   apply aops_step (by decide) rfl
   ·intro K hK
    simp (disch := first | omega | decide) only [go_sem, f1, f2, f4, f6, f7, o2, o4, act_load_t ti5, List.map]
    skip
    exact hK _
   iterate 3 (apply aops_step (by decide) rfl; · (intro K hK; simp (disch := first | omega | decide) only [go_sem, f1, f2, f4, f6, f7, o2, o4, act_convI u5 u71]; exact hK _))
   refine aops_nil ?_
   refine AW.region (cfg := cfg) ?_
   iterate 3 (apply aops_step (by decide) rfl; · (intro K hK; simp (disch := first | omega | decide) only [go_sem, f1, f2, f4, f6, f7, o2, o4]; exact hK _))
   refine aops_nil ?_
   refine ⟨_, _, rfl, ?_, ?_, ?_, ?_, ?_, ?_, ?_, (by exact hG)⟩ <;> try simp (disch := first | omega | decide) only [go_sem, f1, f2, f4, f6, f7, o2, o4]
   all_goals first | rfl | (rw [numV_take (by rw [hlen]; exact hj), drop_get]; rfl)
  ·clear f0 f1 hG
   rintro σ ⟨s, m, rfl, f1, f2, o2, f4, o4, f6, f7, hG⟩
   obtain ⟨g2, o2⟩ : ∃ g, m.objs (.tmp 2 0) = (g, .box [.v (.sl 1 nil (bsl l)), .v (i64 (at_ : Int)), .v (.b w)]) := ⟨_, Prod.ext rfl o2⟩
   rw [o2] at f2
   obtain ⟨g4, o4⟩ : ∃ g, m.objs (.tmp 4 0) = (g, .box [.v (.sl 1 true []), .v (i64 0), .v (.b false)]) := ⟨_, Prod.ext rfl o4⟩
   rw [o4] at f4
   refine AW.seq ?_
   refine AW.sr (cfg := cfg) ?_
   iterate 3 (apply aops_step (by decide) rfl; · (intro K hK; simp (disch := first | omega | decide) only [go_sem, f1, f2, f4, f6, f7, o2, o4]; exact hK _))
   refine aops_nil ?_
   apply AW.cond
   ·(simp only [go_sem, f1, f2, f4, f6, f7, o2, o4]; rfl)
   case ht => intro hb; (simp at hb; omega)
   case hf =>
   intro hb
   have hbt32 := hb
   refine AW.exit ?_
   refine AW.sr (cfg := cfg) ?_
   refine aops_fl (by decide) (by decide) fo127_1 ti3 (by simp (disch := first | omega | decide) only [go_sem, f1, f2, f4, f6, f7, o2, o4]; rfl) (by simp (disch := first | omega | decide) only [go_sem, f1, f2, f4, f6, f7, o2, o4]; rfl) (by rfl) ?_
   iterate 2 (apply aops_step (by decide) rfl; · (intro K hK; simp (disch := first | omega | decide) only [go_sem, f1, f2, f4, f6, f7, o2, o4]; exact hK _))
   apply aops_step (by decide) rfl
   ·intro K hK
    simp (disch := first | omega | decide) only [go_sem, f1, f2, f4, f6, f7, o2, o4, act_fieldAddr_t fo127_1, List.map]
    rw [mwp_fieldAddr_b (by simp only [go_sem, f1, f2, f4, f6, f7, o2, o4]; rfl)]
    exact hK _
   apply aops_step0 rfl
   ·intro K hK
    simp (disch := first | omega | decide) only [go_sem, f1, f2, f4, f6, f7, o2, o4, act_store_t ti3, List.map]
    rw [mwp_store_c (by simp (disch := first | omega | decide) only [go_sem, f1, f2, f4, f6, f7, o2, o4]; rfl) (by rfl) (by rfl) (by rfl) (by simp)]
    try simp only [setAt, cellsL, cellsOf_agg, cellsOf_base, List.map_cons, List.map_nil, List.set_cons_zero, List.set_cons_succ, Nat.reduceAdd, Nat.zero_add, hG]
    exact hK _
   refine aops_nil ?_
   refine AW.sr (cfg := cfg) ?_
   apply aops_step (by decide) rfl
   ·intro K hK
    simp (disch := first | omega | decide) only [go_sem, f1, f2, f4, f6, f7, o2, o4, act_load_t ti127, List.map]
    rw [mwp_load_bs (by simp (disch := first | omega | decide) only [go_sem, f1, f2, f4, f6, f7, o2, o4]; rfl) (by simp [setAt])]
    exact hK _
   iterate 1 (apply aops_step (by decide) rfl; · (intro K hK; simp (disch := first | omega | decide) only [go_sem, f1, f2, f4, f6, f7, o2, o4]; exact hK _))
   apply aops_step0 rfl
   ·intro K hK
    simp (disch := first | omega | decide) only [go_sem, f1, f2, f4, f6, f7, o2, o4, act_store_t ti127, List.map]
    rw [mwp_store_c (by simp (disch := first | omega | decide) only [go_sem, f1, f2, f4, f6, f7, o2, o4]; rfl) (by rfl) (by rfl) (by rfl) (by simp)]
    try simp only [setAt, cellsL, cellsOf_agg, cellsOf_base, List.map_cons, List.map_nil, List.set_cons_zero, List.set_cons_succ, Nat.reduceAdd, Nat.zero_add, hG]
    exact hK _
   iterate 1 (apply aops_step (by decide) rfl; · (intro K hK; simp (disch := first | omega | decide) only [go_sem, f1, f2, f4, f6, f7, o2, o4]; exact hK _))
   refine aops_nil ?_
   refine AW.ret ?_
   refine ⟨.inr rfl, ?_⟩
   refine leaves_mwp2 (rs := [.cell 4 127, .tmp 5]) rfl ?_
   simp (config := {failIfUnchanged := false}) [giveL, srcOne, rehome, freezeN, sub, ti127, upd, opn, aLoad, loadL, giveOne, reify, reifyL, readL, readOne, Mwp, M.bind, Mem.set, setAt, cellsL, hG, f1, f2, f4, f6, f7, o2, o4]
   all_goals (rw [hb0, e1, e2, List.take_of_length_le (List.length_take_le _ _)]; refine ⟨⟨by omega, hb1.1.1.1⟩, rfl⟩)
def nilS (l : List (BitVec 8)) (at_ : Nat) (w : Bool) : Bool := sBad l at_ w
end Go.Vai.O
