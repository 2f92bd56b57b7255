import Derived.Test.YtphmphdckkhblaaProg
import Derived.Test.YtphmphdckkhblaaVaiC
namespace Go.Vai.V
open Go.Proofs Go.Vai
set_option linter.unusedSimpArgs false
set_option linter.unusedVariables false
theorem ti33 : tiOf Try.prog 33 = some ⟨3, 24, [.base (.int .i64 0), .base (.int .i64 0), .base (.int .i64 0)], true⟩ := by kernel_rfl
theorem pl33 : placesOf Try.prog 33 = some [(0, 1), (1, 1), (2, 1)] := by kernel_rfl
theorem fo33_2 : fieldOf Try.prog 33 2 = some (2, 1) := by kernel_rfl
theorem ti3 : tiOf Try.prog 3 = some ⟨1, 8, [.base (.int .i64 0)], false⟩ := by kernel_rfl
theorem fo33_1 : fieldOf Try.prog 33 1 = some (1, 1) := by kernel_rfl
theorem us33 : isStruct Try.prog 33 = true := by kernel_rfl
theorem fl33 : flatT Try.prog 5 33 = some [.i, .i, .i] := by kernel_rfl
theorem eg33 : Try.prog.eqGuardType Try.prog.depth 33 = false := by kernel_rfl
theorem fo33_0 : fieldOf Try.prog 33 0 = some (0, 1) := by kernel_rfl
theorem ti34 : tiOf Try.prog 34 = some ⟨2, 16, [.base (.int .i64 0), .base (.int .i64 0)], true⟩ := by kernel_rfl
theorem u34 : Try.prog.underlying 34 = some (.array 2 3) := by kernel_rfl

def cfg : Cfg := ⟨fun _ => true, fun _ => false, fun f => !([21, 22, 23].contains f)⟩
def pS (n : Int) : Int := if n < 6 ∨ n > 1024 then 0 else min (n / 4) 16
def pF (n : Int) : Int := if n < 6 ∨ n > 1024 then 0 else 2 * min (n / 4) 16
def pL (n : Int) : Int := if n < 6 ∨ n > 1024 then 0 else n - 2 * min (n / 4) 16
def eOf (n : Int) : Int := if n < 6 ∨ n > 1024 then 1 else 0

set_option maxHeartbeats 4000000 in
set_option maxRecDepth 100000 in
theorem good_Make (n : Int) : Good Try.prog 21 [(i64 n, false)] [] [(.agg [i64 (pS n), i64 (pF n), i64 (pL n)], false), (i64 (eOf n), false)] [] := by
  refine good_of_body2 23 Try.func21 rfl rfl rfl (by simp) ?_
  intro s m ha hr hv hG
  have f0 : s 0 = .v (i64 n) := ha 0 _ rfl
  clear ha
  refine AW.seq ?_
  refine AW.region (cfg := cfg) ?_
  apply aops_step (by decide) rfl
  · intro K hK
    simp (disch := first | omega | decide) only [go_sem, f0, act_alloc_t ti33, List.map]
    exact hK _
  iterate 1 (apply aops_step (by decide) rfl; · (intro K hK; simp (disch := first | omega | decide) only [go_sem, f0]; exact hK _))
  refine aops_nil ?_
  refine AW.seq ?_
  refine AW.seq ?_
  refine AW.region (cfg := cfg) ?_
  iterate 3 (apply aops_step (by decide) rfl; · (intro K hK; simp (disch := first | omega | decide) only [go_sem, f0]; exact hK _))
  apply aops_merge' (by decide) (by first | exact want_of (d := 7) rfl (by simp (disch := first | omega | decide) only [go_sem, f0, opn_cond]; rfl) | exact want_of_cond (d := 7) rfl (by simp (disch := first | omega | decide) only [go_sem, f0, opn_cond]; rfl))
  · intro hc K hK
    have hc2 := hc
    simp only [beq_iff_eq, decide_eq_true_eq, decide_eq_false_iff_not, Bool.or_eq_true, Bool.and_eq_true, Bool.or_eq_false_iff, Bool.and_eq_false_iff] at hc2
    simp (disch := first | omega | decide) only [go_sem, f0, opn_cond, hc, if_true]
    exact hK _
  apply aops_merge' (by decide) (by first | exact want_of (d := 7) rfl (by simp (disch := first | omega | decide) only [go_sem, f0, opn_cond]; rfl) | exact want_of_cond (d := 7) rfl (by simp (disch := first | omega | decide) only [go_sem, f0, opn_cond]; rfl))
  · intro hc K hK
    have hc2 := hc
    simp only [beq_iff_eq, decide_eq_true_eq, decide_eq_false_iff_not, Bool.or_eq_true, Bool.and_eq_true, Bool.or_eq_false_iff, Bool.and_eq_false_iff] at hc2
    simp (disch := first | omega | decide) only [go_sem, f0, opn_cond, hc, if_true]
    exact hK _
  iterate 1 (apply aops_step (by decide) rfl; · (intro K hK; simp (disch := first | omega | decide) only [go_sem, f0]; exact hK _))
  refine aops_nil ?_
  apply AW.cond
  · simp (disch := first | omega | decide) only [go_sem, f0]; rfl
  case ht =>
    intro hb
    try simp only [Bool.or_eq_true, Bool.and_eq_true, Bool.or_eq_false_iff, Bool.and_eq_false_iff, decide_eq_true_eq, decide_eq_false_iff_not] at hb
    refine AW.seq ?_
    refine AW.region (cfg := cfg) ?_
    apply aops_step (by decide) rfl
    · intro K hK
      simp (disch := first | omega | decide) only [go_sem, f0, act_build_t ti33 pl33, List.map]
      simp [-List.map_take, -List.map_drop, fillL, okOne, cellishAV, Value.oneCell', cellsL, cellsOf, setAt, M.bind, Mwp]
      exact hK _
    apply aops_step0 rfl
    · intro K hK
      simp (disch := first | omega | decide) only [go_sem, f0, act_store_t ti33, List.map]
      first | rw [mwp_store_c (by simp (disch := first | omega | decide) only [go_sem, f0]; rfl) (by rfl) (by rfl) (by rfl) (by simp)] | rw [mwp_aStore_map (by simp (disch := first | omega | decide) only [go_sem, f0]; rfl) (by first | omega | (simp; omega)) (fun _ => rfl) rfl rfl (fun _ => rfl)] | skip
      try simp only [setAt, cellsL, cellsOf_agg, cellsOf_base, List.map_cons, List.map_nil, List.set_cons_zero, List.set_cons_succ, Nat.reduceAdd, Nat.zero_add]
      exact hK _
    iterate 1 (apply aops_step (by decide) rfl; · (intro K hK; simp (disch := first | omega | decide) only [go_sem, f0]; exact hK _))
    refine aops_nil ?_
    refine AW.ret ?_
    refine ⟨.inr rfl, ?_⟩
    refine leaves_mwp2 (rs := [.cell 2 33, .tmp 3]) rfl ?_
    simp [giveL, srcOne, ti33, upd, opn, aLoad, loadL, giveOne, reify, reifyL, readL, readOne, Mwp, M.bind, Mem.set, setAt, cellsL, pS, pF, pL, eOf, hb, hG]
    try omega
    trace_state
  case hf =>
    intro hb
    try simp only [Bool.or_eq_true, Bool.and_eq_true, Bool.or_eq_false_iff, Bool.and_eq_false_iff, decide_eq_true_eq, decide_eq_false_iff_not] at hb
    refine AW.skip ?_
    refine AW.seq ?_
    refine AW.region (cfg := cfg) ?_
    iterate 4 (apply aops_step (by decide) rfl; · (intro K hK; simp (disch := first | omega | decide) only [go_sem, f0]; exact hK _))
    refine aops_nil ?_
    refine AW.seq ?_
    refine AW.region (cfg := cfg) ?_
    iterate 7 (apply aops_step (by decide) rfl; · (intro K hK; simp (disch := first | omega | decide) only [go_sem, f0]; exact hK _))
    apply aops_step (by decide) rfl
    · intro K hK
      simp (disch := first | omega | decide) only [go_sem, f0, act_build_t ti33 pl33, List.map]
      simp [-List.map_take, -List.map_drop, fillL, okOne, cellishAV, Value.oneCell', cellsL, cellsOf, setAt, M.bind, Mwp]
      exact hK _
    apply aops_step0 rfl
    · intro K hK
      simp (disch := first | omega | decide) only [go_sem, f0, act_store_t ti33, List.map]
      first | rw [mwp_store_c (by simp (disch := first | omega | decide) only [go_sem, f0]; rfl) (by rfl) (by rfl) (by rfl) (by simp)] | rw [mwp_aStore_map (by simp (disch := first | omega | decide) only [go_sem, f0]; rfl) (by first | omega | (simp; omega)) (fun _ => rfl) rfl rfl (fun _ => rfl)] | skip
      try simp only [setAt, cellsL, cellsOf_agg, cellsOf_base, List.map_cons, List.map_nil, List.set_cons_zero, List.set_cons_succ, Nat.reduceAdd, Nat.zero_add]
      exact hK _
    iterate 1 (apply aops_step (by decide) rfl; · (intro K hK; simp (disch := first | omega | decide) only [go_sem, f0]; exact hK _))
    refine aops_nil ?_
    refine AW.ret ?_
    refine ⟨.inr rfl, ?_⟩
    refine leaves_mwp2 (rs := [.cell 2 33, .tmp 3]) rfl ?_
    simp [giveL, srcOne, ti33, upd, opn, aLoad, loadL, giveOne, reify, reifyL, readL, readOne, Mwp, M.bind, Mem.set, setAt, cellsL, pS, pF, pL, eOf, hb, hG]
    try omega
    trace_state

def mayP (a b c : Int) : Bool := if ((c < 0 ∨ c > 1024) ∨ b < 0) ∨ b > 1024 then false else decide (eOf (b + c) = 0) && (pS (b + c) == a && (pF (b + c) == b && pL (b + c) == c))
set_option maxHeartbeats 4000000 in
set_option maxRecDepth 100000 in
theorem good_may (a b c : Int) : Good Try.prog 61 [(.agg [i64 a, i64 b, i64 c], false)] [] [(.b (mayP a b c), false)] [] := by
  refine good_of_body2 39 Try.func61 rfl rfl rfl (by simp) ?_
  intro s m ha hr hv hG
  have f0 : s 0 = .v (.agg [i64 a, i64 b, i64 c]) := ha 0 _ rfl
  clear ha
  refine AW.seq ?_
  refine AW.region (cfg := cfg) ?_
  apply aops_step (by decide) rfl
  · intro K hK
    simp (disch := first | omega | decide) only [go_sem, f0, act_box_t ti33, List.map]
    rw [settleL_vish _ _ (by rfl)]
    simp (disch := first | omega | decide) only [go_sem, f0, cellsL, List.map, List.length_cons, List.length_nil, Nat.reduceAdd, if_true]
    exact hK _
  iterate 1 (apply aops_step (by decide) rfl; · (intro K hK; simp (disch := first | omega | decide) only [go_sem, f0]; exact hK _))
  refine aops_nil ?_
  refine AW.seq ?_
  refine AW.seq ?_
  refine AW.region (cfg := cfg) ?_
  apply aops_step (by decide) rfl
  · intro K hK
    simp (disch := first | omega | decide) only [go_sem, f0, act_fieldAddr_t fo33_2, List.map]
    first | rw [mwp_fieldAddr_b (by simp (disch := first | omega | decide) only [go_sem, f0]; rfl)] | skip
    exact hK _
  apply aops_step (by decide) rfl
  · intro K hK
    simp (disch := first | omega | decide) only [go_sem, f0, act_load_t ti3, List.map]
    first | rw [mwp_load_bs (by simp (disch := first | omega | decide) only [go_sem, f0]; rfl) (by simp)] | rw [mwp_load_b1 (by simp (disch := first | omega | decide) only [go_sem, f0]; rfl) (by rfl)] | rw [mwp_aLoad_map (by simp (disch := first | omega | decide) only [go_sem, f0]; rfl) (by first | omega | (simp; omega)) (fun _ => rfl)] | rw [mwp_aLoad_e1 (by simp (disch := first | omega | decide) only [go_sem, f0]; rfl) (by simp) rfl] | skip
    exact hK _
  iterate 2 (apply aops_step (by decide) rfl; · (intro K hK; simp (disch := first | omega | decide) only [go_sem, f0]; exact hK _))
  apply aops_merge' (by decide) (by first | exact want_of (d := 8) rfl (by simp (disch := first | omega | decide) only [go_sem, f0, opn_cond]; rfl) | exact want_of_cond (d := 8) rfl (by simp (disch := first | omega | decide) only [go_sem, f0, opn_cond]; rfl))
  · intro hc K hK
    have hc2 := hc
    simp only [beq_iff_eq, decide_eq_true_eq, decide_eq_false_iff_not, Bool.or_eq_true, Bool.and_eq_true, Bool.or_eq_false_iff, Bool.and_eq_false_iff] at hc2
    simp (disch := first | omega | decide) only [go_sem, f0, opn_cond, hc, if_true, act_fieldAddr_t fo33_2]
    first | rw [mwp_fieldAddr_b (by simp (disch := first | omega | decide) only [go_sem, f0, opn_cond, hc, if_true]; rfl)] | skip
    exact hK _
  apply aops_merge' (by decide) (by first | exact want_of (d := 8) rfl (by simp (disch := first | omega | decide) only [go_sem, f0, opn_cond]; rfl) | exact want_of_cond (d := 8) rfl (by simp (disch := first | omega | decide) only [go_sem, f0, opn_cond]; rfl))
  · intro hc K hK
    have hc2 := hc
    simp only [beq_iff_eq, decide_eq_true_eq, decide_eq_false_iff_not, Bool.or_eq_true, Bool.and_eq_true, Bool.or_eq_false_iff, Bool.and_eq_false_iff] at hc2
    simp (disch := first | omega | decide) only [go_sem, f0, opn_cond, hc, if_true, act_load_t ti3]
    first | rw [mwp_load_bs (by simp (disch := first | omega | decide) only [go_sem, f0, opn_cond, hc, if_true]; rfl) (by simp)] | rw [mwp_load_b1 (by simp (disch := first | omega | decide) only [go_sem, f0, opn_cond, hc, if_true]; rfl) (by rfl)] | rw [mwp_aLoad_map (by simp (disch := first | omega | decide) only [go_sem, f0, opn_cond, hc, if_true]; rfl) (by first | omega | (simp; omega)) (fun _ => rfl)] | rw [mwp_aLoad_e1 (by simp (disch := first | omega | decide) only [go_sem, f0, opn_cond, hc, if_true]; rfl) (by simp) rfl] | skip
    exact hK _
  apply aops_merge' (by decide) (by first | exact want_of (d := 8) rfl (by simp (disch := first | omega | decide) only [go_sem, f0, opn_cond]; rfl) | exact want_of_cond (d := 8) rfl (by simp (disch := first | omega | decide) only [go_sem, f0, opn_cond]; rfl))
  · intro hc K hK
    have hc2 := hc
    simp only [beq_iff_eq, decide_eq_true_eq, decide_eq_false_iff_not, Bool.or_eq_true, Bool.and_eq_true, Bool.or_eq_false_iff, Bool.and_eq_false_iff] at hc2
    simp (disch := first | omega | decide) only [go_sem, f0, opn_cond, hc, if_true]
    exact hK _
  iterate 2 (apply aops_step (by decide) rfl; · (intro K hK; simp (disch := first | omega | decide) only [go_sem, f0]; exact hK _))
  apply aops_merge' (by decide) (by first | exact want_of (d := 13) rfl (by simp (disch := first | omega | decide) only [go_sem, f0, opn_cond]; rfl) | exact want_of_cond (d := 13) rfl (by simp (disch := first | omega | decide) only [go_sem, f0, opn_cond]; rfl))
  · intro hc K hK
    have hc2 := hc
    simp only [beq_iff_eq, decide_eq_true_eq, decide_eq_false_iff_not, Bool.or_eq_true, Bool.and_eq_true, Bool.or_eq_false_iff, Bool.and_eq_false_iff] at hc2
    simp (disch := first | omega | decide) only [go_sem, f0, opn_cond, hc, if_true, act_fieldAddr_t fo33_1]
    first | rw [mwp_fieldAddr_b (by simp (disch := first | omega | decide) only [go_sem, f0, opn_cond, hc, if_true]; rfl)] | skip
    exact hK _
  apply aops_merge' (by decide) (by first | exact want_of (d := 13) rfl (by simp (disch := first | omega | decide) only [go_sem, f0, opn_cond]; rfl) | exact want_of_cond (d := 13) rfl (by simp (disch := first | omega | decide) only [go_sem, f0, opn_cond]; rfl))
  · intro hc K hK
    have hc2 := hc
    simp only [beq_iff_eq, decide_eq_true_eq, decide_eq_false_iff_not, Bool.or_eq_true, Bool.and_eq_true, Bool.or_eq_false_iff, Bool.and_eq_false_iff] at hc2
    simp (disch := first | omega | decide) only [go_sem, f0, opn_cond, hc, if_true, act_load_t ti3]
    first | rw [mwp_load_bs (by simp (disch := first | omega | decide) only [go_sem, f0, opn_cond, hc, if_true]; rfl) (by simp)] | rw [mwp_load_b1 (by simp (disch := first | omega | decide) only [go_sem, f0, opn_cond, hc, if_true]; rfl) (by rfl)] | rw [mwp_aLoad_map (by simp (disch := first | omega | decide) only [go_sem, f0, opn_cond, hc, if_true]; rfl) (by first | omega | (simp; omega)) (fun _ => rfl)] | rw [mwp_aLoad_e1 (by simp (disch := first | omega | decide) only [go_sem, f0, opn_cond, hc, if_true]; rfl) (by simp) rfl] | skip
    exact hK _
  apply aops_merge' (by decide) (by first | exact want_of (d := 13) rfl (by simp (disch := first | omega | decide) only [go_sem, f0, opn_cond]; rfl) | exact want_of_cond (d := 13) rfl (by simp (disch := first | omega | decide) only [go_sem, f0, opn_cond]; rfl))
  · intro hc K hK
    have hc2 := hc
    simp only [beq_iff_eq, decide_eq_true_eq, decide_eq_false_iff_not, Bool.or_eq_true, Bool.and_eq_true, Bool.or_eq_false_iff, Bool.and_eq_false_iff] at hc2
    simp (disch := first | omega | decide) only [go_sem, f0, opn_cond, hc, if_true]
    exact hK _
  iterate 2 (apply aops_step (by decide) rfl; · (intro K hK; simp (disch := first | omega | decide) only [go_sem, f0]; exact hK _))
  apply aops_merge' (by decide) (by first | exact want_of (d := 18) rfl (by simp (disch := first | omega | decide) only [go_sem, f0, opn_cond]; rfl) | exact want_of_cond (d := 18) rfl (by simp (disch := first | omega | decide) only [go_sem, f0, opn_cond]; rfl))
  · intro hc K hK
    have hc2 := hc
    simp only [beq_iff_eq, decide_eq_true_eq, decide_eq_false_iff_not, Bool.or_eq_true, Bool.and_eq_true, Bool.or_eq_false_iff, Bool.and_eq_false_iff] at hc2
    simp (disch := first | omega | decide) only [go_sem, f0, opn_cond, hc, if_true, act_fieldAddr_t fo33_1]
    first | rw [mwp_fieldAddr_b (by simp (disch := first | omega | decide) only [go_sem, f0, opn_cond, hc, if_true]; rfl)] | skip
    exact hK _
  apply aops_merge' (by decide) (by first | exact want_of (d := 18) rfl (by simp (disch := first | omega | decide) only [go_sem, f0, opn_cond]; rfl) | exact want_of_cond (d := 18) rfl (by simp (disch := first | omega | decide) only [go_sem, f0, opn_cond]; rfl))
  · intro hc K hK
    have hc2 := hc
    simp only [beq_iff_eq, decide_eq_true_eq, decide_eq_false_iff_not, Bool.or_eq_true, Bool.and_eq_true, Bool.or_eq_false_iff, Bool.and_eq_false_iff] at hc2
    simp (disch := first | omega | decide) only [go_sem, f0, opn_cond, hc, if_true, act_load_t ti3]
    first | rw [mwp_load_bs (by simp (disch := first | omega | decide) only [go_sem, f0, opn_cond, hc, if_true]; rfl) (by simp)] | rw [mwp_load_b1 (by simp (disch := first | omega | decide) only [go_sem, f0, opn_cond, hc, if_true]; rfl) (by rfl)] | rw [mwp_aLoad_map (by simp (disch := first | omega | decide) only [go_sem, f0, opn_cond, hc, if_true]; rfl) (by first | omega | (simp; omega)) (fun _ => rfl)] | rw [mwp_aLoad_e1 (by simp (disch := first | omega | decide) only [go_sem, f0, opn_cond, hc, if_true]; rfl) (by simp) rfl] | skip
    exact hK _
  apply aops_merge' (by decide) (by first | exact want_of (d := 18) rfl (by simp (disch := first | omega | decide) only [go_sem, f0, opn_cond]; rfl) | exact want_of_cond (d := 18) rfl (by simp (disch := first | omega | decide) only [go_sem, f0, opn_cond]; rfl))
  · intro hc K hK
    have hc2 := hc
    simp only [beq_iff_eq, decide_eq_true_eq, decide_eq_false_iff_not, Bool.or_eq_true, Bool.and_eq_true, Bool.or_eq_false_iff, Bool.and_eq_false_iff] at hc2
    simp (disch := first | omega | decide) only [go_sem, f0, opn_cond, hc, if_true]
    exact hK _
  iterate 1 (apply aops_step (by decide) rfl; · (intro K hK; simp (disch := first | omega | decide) only [go_sem, f0]; exact hK _))
  refine aops_nil ?_
  apply AW.cond
  · simp (disch := first | omega | decide) only [go_sem, f0]; rfl
  case ht =>
    intro hb
    try simp only [Bool.or_eq_true, Bool.and_eq_true, Bool.or_eq_false_iff, Bool.and_eq_false_iff, decide_eq_true_eq, decide_eq_false_iff_not] at hb
    refine AW.seq ?_
    refine AW.region (cfg := cfg) ?_
    iterate 1 (apply aops_step (by decide) rfl; · (intro K hK; simp (disch := first | omega | decide) only [go_sem, f0]; exact hK _))
    refine aops_nil ?_
    refine AW.ret ?_
    refine ⟨.inr rfl, ?_⟩
    refine leaves_tmp1 2 rfl ?_ (by first | rfl | exact hG)
    simp (disch := first | omega | decide) only [go_sem, f0]
    first | (rw [mayP, if_pos (by omega)]) | (rw [mayP, if_neg (by omega)]; try simp)
  case hf =>
    intro hb
    try simp only [Bool.or_eq_true, Bool.and_eq_true, Bool.or_eq_false_iff, Bool.and_eq_false_iff, decide_eq_true_eq, decide_eq_false_iff_not] at hb
    refine AW.skip ?_
    refine AW.seq ?_
    refine AW.region (cfg := cfg) ?_
    apply aops_step (by decide) rfl
    · intro K hK
      simp (disch := first | omega | decide) only [go_sem, f0, act_fieldAddr_t fo33_1, List.map]
      first | rw [mwp_fieldAddr_b (by simp (disch := first | omega | decide) only [go_sem, f0]; rfl)] | skip
      exact hK _
    apply aops_step (by decide) rfl
    · intro K hK
      simp (disch := first | omega | decide) only [go_sem, f0, act_load_t ti3, List.map]
      first | rw [mwp_load_bs (by simp (disch := first | omega | decide) only [go_sem, f0]; rfl) (by simp)] | rw [mwp_load_b1 (by simp (disch := first | omega | decide) only [go_sem, f0]; rfl) (by rfl)] | rw [mwp_aLoad_map (by simp (disch := first | omega | decide) only [go_sem, f0]; rfl) (by first | omega | (simp; omega)) (fun _ => rfl)] | rw [mwp_aLoad_e1 (by simp (disch := first | omega | decide) only [go_sem, f0]; rfl) (by simp) rfl] | skip
      exact hK _
    apply aops_step (by decide) rfl
    · intro K hK
      simp (disch := first | omega | decide) only [go_sem, f0, act_fieldAddr_t fo33_2, List.map]
      first | rw [mwp_fieldAddr_b (by simp (disch := first | omega | decide) only [go_sem, f0]; rfl)] | skip
      exact hK _
    apply aops_step (by decide) rfl
    · intro K hK
      simp (disch := first | omega | decide) only [go_sem, f0, act_load_t ti3, List.map]
      first | rw [mwp_load_bs (by simp (disch := first | omega | decide) only [go_sem, f0]; rfl) (by simp)] | rw [mwp_load_b1 (by simp (disch := first | omega | decide) only [go_sem, f0]; rfl) (by rfl)] | rw [mwp_aLoad_map (by simp (disch := first | omega | decide) only [go_sem, f0]; rfl) (by first | omega | (simp; omega)) (fun _ => rfl)] | rw [mwp_aLoad_e1 (by simp (disch := first | omega | decide) only [go_sem, f0]; rfl) (by simp) rfl] | skip
      exact hK _
    iterate 1 (apply aops_step (by decide) rfl; · (intro K hK; simp (disch := first | omega | decide) only [go_sem, f0]; exact hK _))
    apply aops_step (by decide) rfl
    · intro K hK
      simp (disch := first | omega | decide) only [go_sem, f0, act_call, List.map]
      apply mwp_call_r rfl rfl rfl
      · intro Q hQ
        simp (disch := first | omega | decide) only [go_sem, f0, peekL]
        first | exact hQ | (rw [peek_own (by simp (disch := first | omega | decide) only [go_sem, f0, peekL]; rfl)]; exact hQ) | (rw [peek_own (by simp (disch := first | omega | decide) only [go_sem, f0, peekL]; rfl)]; simp (disch := first | omega | decide) only [go_sem, f0, peekL]; rw [peek_own (by simp (disch := first | omega | decide) only [go_sem, f0, peekL]; rfl)]; exact hQ) | (rw [peek_own (by simp (disch := first | omega | decide) only [go_sem, f0, peekL]; rfl)]; simp (disch := first | omega | decide) only [go_sem, f0, peekL]; exact hQ)
      · exact good_Make _
      · simp [-List.map_take, -List.map_drop, noPtrL, noPtr, noPtrL_bsl, noPtrL_map, sub]
      · simp (disch := first | omega | decide) only [go_sem, f0]
        exact hK _
    iterate 3 (apply aops_step (by decide) rfl; · (intro K hK; simp (disch := first | omega | decide) only [go_sem, f0]; exact hK _))
    apply aops_step (by decide) rfl
    · intro K hK
      simp (disch := first | omega | decide) only [go_sem, f0, act_alloc_t ti33, List.map]
      exact hK _
    apply aops_step0 rfl
    · intro K hK
      simp (disch := first | omega | decide) only [go_sem, f0, act_store_t ti33, List.map]
      first | rw [mwp_store_c (by simp (disch := first | omega | decide) only [go_sem, f0]; rfl) (by rfl) (by rfl) (by rfl) (by simp)] | rw [mwp_aStore_map (by simp (disch := first | omega | decide) only [go_sem, f0]; rfl) (by first | omega | (simp; omega)) (fun _ => rfl) rfl rfl (fun _ => rfl)] | skip
      try simp only [setAt, cellsL, cellsOf_agg, cellsOf_base, List.map_cons, List.map_nil, List.set_cons_zero, List.set_cons_succ, Nat.reduceAdd, Nat.zero_add]
      exact hK _
    iterate 1 (apply aops_step (by decide) rfl; · (intro K hK; simp (disch := first | omega | decide) only [go_sem, f0]; exact hK _))
    refine aops_nil ?_
    refine AW.seq ?_
    refine AW.region (cfg := cfg) ?_
    iterate 3 (apply aops_step (by decide) rfl; · (intro K hK; simp (disch := first | omega | decide) only [go_sem, f0]; exact hK _))
    apply aops_merge' (by decide) (by first | exact want_of (d := 34) rfl (by simp (disch := first | omega | decide) only [go_sem, f0, opn_cond]; rfl) | exact want_of_cond (d := 34) rfl (by simp (disch := first | omega | decide) only [go_sem, f0, opn_cond]; rfl))
    · intro hc K hK
      have hc2 := hc
      simp only [beq_iff_eq, decide_eq_true_eq, decide_eq_false_iff_not, Bool.or_eq_true, Bool.and_eq_true, Bool.or_eq_false_iff, Bool.and_eq_false_iff] at hc2
      simp (disch := first | omega | decide) only [go_sem, f0, opn_cond, hc, if_true, act_load_t ti33]
      first | rw [mwp_load_bs (by simp (disch := first | omega | decide) only [go_sem, f0, opn_cond, hc, if_true]; rfl) (by simp)] | rw [mwp_load_b1 (by simp (disch := first | omega | decide) only [go_sem, f0, opn_cond, hc, if_true]; rfl) (by rfl)] | rw [mwp_aLoad_map (by simp (disch := first | omega | decide) only [go_sem, f0, opn_cond, hc, if_true]; rfl) (by first | omega | (simp; omega)) (fun _ => rfl)] | rw [mwp_aLoad_e1 (by simp (disch := first | omega | decide) only [go_sem, f0, opn_cond, hc, if_true]; rfl) (by simp) rfl] | skip
      exact hK _
    apply aops_merge' (by decide) (by first | exact want_of (d := 34) rfl (by simp (disch := first | omega | decide) only [go_sem, f0, opn_cond]; rfl) | exact want_of_cond (d := 34) rfl (by simp (disch := first | omega | decide) only [go_sem, f0, opn_cond]; rfl))
    · intro hc K hK
      have hc2 := hc
      simp only [beq_iff_eq, decide_eq_true_eq, decide_eq_false_iff_not, Bool.or_eq_true, Bool.and_eq_true, Bool.or_eq_false_iff, Bool.and_eq_false_iff] at hc2
      simp (disch := first | omega | decide) only [go_sem, f0, opn_cond, hc, if_true, act_load_t ti33]
      first | rw [mwp_load_bs (by simp (disch := first | omega | decide) only [go_sem, f0, opn_cond, hc, if_true]; rfl) (by simp)] | rw [mwp_load_b1 (by simp (disch := first | omega | decide) only [go_sem, f0, opn_cond, hc, if_true]; rfl) (by rfl)] | rw [mwp_aLoad_map (by simp (disch := first | omega | decide) only [go_sem, f0, opn_cond, hc, if_true]; rfl) (by first | omega | (simp; omega)) (fun _ => rfl)] | rw [mwp_aLoad_e1 (by simp (disch := first | omega | decide) only [go_sem, f0, opn_cond, hc, if_true]; rfl) (by simp) rfl] | skip
      exact hK _
    apply aops_merge' (by decide) (by first | exact want_of (d := 34) rfl (by simp (disch := first | omega | decide) only [go_sem, f0, opn_cond]; rfl) | exact want_of_cond (d := 34) rfl (by simp (disch := first | omega | decide) only [go_sem, f0, opn_cond]; rfl))
    · intro hc K hK
      have hc2 := hc
      simp only [beq_iff_eq, decide_eq_true_eq, decide_eq_false_iff_not, Bool.or_eq_true, Bool.and_eq_true, Bool.or_eq_false_iff, Bool.and_eq_false_iff] at hc2
      simp (disch := first | omega | decide) only [go_sem, f0, opn_cond, hc, if_true, bin_eql_s us33 fl33 eg33]
      exact hK _
    iterate 2 (apply aops_step (by decide) rfl; · (intro K hK; simp (disch := first | omega | decide) only [go_sem, f0]; exact hK _))
    refine aops_nil ?_
    refine AW.ret ?_
    refine ⟨.inr rfl, ?_⟩
    refine leaves_tmp1 2 rfl ?_ (by first | rfl | exact hG)
    simp (disch := first | omega | decide) only [go_sem, f0]
    first | (rw [mayP, if_pos (by omega)]) | (rw [mayP, if_neg (by omega)]; try simp)

set_option maxHeartbeats 4000000 in
set_option maxRecDepth 100000 in
theorem good_refMake (n : Int) (hn : 6 ≤ n ∧ n ≤ 1024) : Good Try.prog 22 [(i64 n, false)] [] [(.agg [i64 (pS n), i64 (pF n), i64 (pL n)], false)] [] := by
  refine good_of_body2 16 Try.func22 rfl rfl rfl (by simp) ?_
  intro s m ha hr hv hG
  have f0 : s 0 = .v (i64 n) := ha 0 _ rfl
  clear ha
  refine AW.seq ?_
  refine AW.region (cfg := cfg) ?_
  apply aops_step (by decide) rfl
  · intro K hK
    simp (disch := first | omega | decide) only [go_sem, f0, act_alloc_t ti33, List.map]
    exact hK _
  refine aops_nil ?_
  refine AW.seq ?_
  refine AW.region (cfg := cfg) ?_
  iterate 3 (apply aops_step (by decide) rfl; · (intro K hK; simp (disch := first | omega | decide) only [go_sem, f0]; exact hK _))
  refine aops_nil ?_
  refine AW.seq ?_
  refine AW.seq ?_
  refine AW.region (cfg := cfg) ?_
  iterate 2 (apply aops_step (by decide) rfl; · (intro K hK; simp (disch := first | omega | decide) only [go_sem, f0]; exact hK _))
  refine aops_nil ?_
  apply AW.cond
  · simp (disch := first | omega | decide) only [go_sem, f0]; rfl
  case ht =>
    intro hb
    try simp only [Bool.or_eq_true, Bool.and_eq_true, Bool.or_eq_false_iff, Bool.and_eq_false_iff, decide_eq_true_eq, decide_eq_false_iff_not] at hb
    refine AW.region (cfg := cfg) ?_
    iterate 1 (apply aops_step (by decide) rfl; · (intro K hK; simp (disch := first | omega | decide) only [go_sem, f0]; exact hK _))
    refine aops_nil ?_
    refine AW.seq ?_
    refine AW.region (cfg := cfg) ?_
    iterate 7 (apply aops_step (by decide) rfl; · (intro K hK; simp (disch := first | omega | decide) only [go_sem, f0]; exact hK _))
    apply aops_step (by decide) rfl
    · intro K hK
      simp (disch := first | omega | decide) only [go_sem, f0, act_build_t ti33 pl33, List.map]
      simp [-List.map_take, -List.map_drop, fillL, okOne, cellishAV, Value.oneCell', cellsL, cellsOf, setAt, M.bind, Mwp]
      exact hK _
    apply aops_step0 rfl
    · intro K hK
      simp (disch := first | omega | decide) only [go_sem, f0, act_store_t ti33, List.map]
      first | rw [mwp_store_c (by simp (disch := first | omega | decide) only [go_sem, f0]; rfl) (by rfl) (by rfl) (by rfl) (by simp)] | rw [mwp_aStore_map (by simp (disch := first | omega | decide) only [go_sem, f0]; rfl) (by first | omega | (simp; omega)) (fun _ => rfl) rfl rfl (fun _ => rfl)] | skip
      try simp only [setAt, cellsL, cellsOf_agg, cellsOf_base, List.map_cons, List.map_nil, List.set_cons_zero, List.set_cons_succ, Nat.reduceAdd, Nat.zero_add]
      exact hK _
    refine aops_nil ?_
    refine AW.ret ?_
    refine ⟨.inr rfl, ?_⟩
    refine leaves_mwp2 (rs := [.cell 2 33]) rfl ?_
    simp [giveL, srcOne, ti33, upd, opn, aLoad, loadL, giveOne, reify, reifyL, readL, readOne, Mwp, M.bind, Mem.set, setAt, cellsL, pS, pF, pL, hG]
    refine ⟨?_, ?_, ?_⟩ <;> rw [if_neg (by omega)] <;> omega
  case hf =>
    intro hb
    try simp only [Bool.or_eq_true, Bool.and_eq_true, Bool.or_eq_false_iff, Bool.and_eq_false_iff, decide_eq_true_eq, decide_eq_false_iff_not] at hb
    refine AW.skip ?_
    refine AW.seq ?_
    refine AW.region (cfg := cfg) ?_
    iterate 7 (apply aops_step (by decide) rfl; · (intro K hK; simp (disch := first | omega | decide) only [go_sem, f0]; exact hK _))
    apply aops_step (by decide) rfl
    · intro K hK
      simp (disch := first | omega | decide) only [go_sem, f0, act_build_t ti33 pl33, List.map]
      simp [-List.map_take, -List.map_drop, fillL, okOne, cellishAV, Value.oneCell', cellsL, cellsOf, setAt, M.bind, Mwp]
      exact hK _
    apply aops_step0 rfl
    · intro K hK
      simp (disch := first | omega | decide) only [go_sem, f0, act_store_t ti33, List.map]
      first | rw [mwp_store_c (by simp (disch := first | omega | decide) only [go_sem, f0]; rfl) (by rfl) (by rfl) (by rfl) (by simp)] | rw [mwp_aStore_map (by simp (disch := first | omega | decide) only [go_sem, f0]; rfl) (by first | omega | (simp; omega)) (fun _ => rfl) rfl rfl (fun _ => rfl)] | skip
      try simp only [setAt, cellsL, cellsOf_agg, cellsOf_base, List.map_cons, List.map_nil, List.set_cons_zero, List.set_cons_succ, Nat.reduceAdd, Nat.zero_add]
      exact hK _
    refine aops_nil ?_
    refine AW.ret ?_
    refine ⟨.inr rfl, ?_⟩
    refine leaves_mwp2 (rs := [.cell 2 33]) rfl ?_
    simp [giveL, srcOne, ti33, upd, opn, aLoad, loadL, giveOne, reify, reifyL, readL, readOne, Mwp, M.bind, Mem.set, setAt, cellsL, pS, pF, pL, hG]
    refine ⟨?_, ?_, ?_⟩ <;> rw [if_neg (by omega)] <;> omega

theorem may_range {a b c : Int} (h : mayP a b c = true) : a = pS (b + c) ∧ b = pF (b + c) ∧ c = pL (b + c) ∧ eOf (b + c) = 0 ∧ 6 ≤ b + c ∧ b + c ≤ 1024 ∧ 0 ≤ a ∧ a ≤ 16 ∧ 0 ≤ b ∧ 0 ≤ c := by
  unfold mayP at h
  split at h
  · cases h
  · simp only [Bool.and_eq_true, decide_eq_true_eq, beq_iff_eq] at h
    obtain ⟨h1, h2, h3, h4⟩ := h
    have h5 : ¬ (b + c < 6 ∨ b + c > 1024) := fun h => by simp [eOf, h] at h1
    refine ⟨h2.symm, h3.symm, h4.symm, h1, by omega, by omega, ?_, ?_, by omega, by omega⟩ <;> rw [← h2, pS, if_neg h5] <;> omega
def slotF (a b c gen : Int) : Int := if mayP a b c = false ∨ gen < 0 then 0 else gen % 2 * a
def slotT (a b c gen : Int) : Int := if mayP a b c = false ∨ gen < 0 then 0 else gen % 2 * a + a
def atS (a b c i : Int) : Int := if mayP a b c = false ∨ i < 0 ∨ i ≥ c then -1 else b + i
set_option maxHeartbeats 4000000 in
set_option maxRecDepth 100000 in
theorem good_Slot (a b c gen : Int) : Good Try.prog 23 [(.agg [i64 a, i64 b, i64 c], false), (i64 gen, false)] [] [(i64 (slotF a b c gen), false), (i64 (slotT a b c gen), false)] [] := by
  refine good_of_body2 23 Try.func23 rfl rfl rfl (by simp) ?_
  intro s m ha hr hv hG
  have f0 : s 0 = .v (.agg [i64 a, i64 b, i64 c]) := ha 0 _ rfl
  have f1 : s 1 = .v (i64 gen) := ha 1 _ rfl
  clear ha
  refine AW.seq ?_
  refine AW.region (cfg := cfg) ?_
  apply aops_step (by decide) rfl
  · intro K hK
    simp (disch := first | omega | decide) only [go_sem, f0, f1, act_box_t ti33, List.map]
    rw [settleL_vish _ _ (by rfl)]
    simp (disch := first | omega | decide) only [go_sem, f0, f1, cellsL, List.map, List.length_cons, List.length_nil, Nat.reduceAdd, if_true]
    exact hK _
  iterate 2 (apply aops_step (by decide) rfl; · (intro K hK; simp (disch := first | omega | decide) only [go_sem, f0, f1]; exact hK _))
  refine aops_nil ?_
  refine AW.seq ?_
  refine AW.seq ?_
  refine AW.region (cfg := cfg) ?_
  apply aops_step (by decide) rfl
  · intro K hK
    simp (disch := first | omega | decide) only [go_sem, f0, f1, act_load_t ti33, List.map]
    first | rw [mwp_load_bs (by simp (disch := first | omega | decide) only [go_sem, f0, f1]; rfl) (by simp)] | rw [mwp_load_b1 (by simp (disch := first | omega | decide) only [go_sem, f0, f1]; rfl) (by rfl)] | rw [mwp_aLoad_map (by simp (disch := first | omega | decide) only [go_sem, f0, f1]; rfl) (by first | omega | (simp; omega)) (fun _ => rfl)] | rw [mwp_aLoad_e1 (by simp (disch := first | omega | decide) only [go_sem, f0, f1]; rfl) (by simp) rfl] | skip
    exact hK _
  apply aops_step (by decide) rfl
  · intro K hK
    simp (disch := first | omega | decide) only [go_sem, f0, f1, act_call, List.map]
    apply mwp_call_s rfl rfl rfl
    · intro Q hQ
      simp (disch := first | omega | decide) only [go_sem, f0, f1, peekL]
      first | exact hQ | (rw [peek_own (by simp (disch := first | omega | decide) only [go_sem, f0, f1, peekL]; rfl)]; exact hQ) | (rw [peek_own (by simp (disch := first | omega | decide) only [go_sem, f0, f1, peekL]; rfl)]; simp (disch := first | omega | decide) only [go_sem, f0, f1, peekL]; rw [peek_own (by simp (disch := first | omega | decide) only [go_sem, f0, f1, peekL]; rfl)]; exact hQ) | (rw [peek_own (by simp (disch := first | omega | decide) only [go_sem, f0, f1, peekL]; rfl)]; simp (disch := first | omega | decide) only [go_sem, f0, f1, peekL]; exact hQ)
    · exact good_may _ _ _
    · simp [-List.map_take, -List.map_drop, noPtrL, noPtr, noPtrL_bsl, noPtrL_map, sub]
    · rfl
    · exact hK _
  iterate 2 (apply aops_step (by decide) rfl; · (intro K hK; simp (disch := first | omega | decide) only [go_sem, f0, f1]; exact hK _))
  apply aops_merge' (by decide) (by first | exact want_of (d := 9) rfl (by simp (disch := first | omega | decide) only [go_sem, f0, f1, opn_cond]; rfl) | exact want_of_cond (d := 9) rfl (by simp (disch := first | omega | decide) only [go_sem, f0, f1, opn_cond]; rfl))
  · intro hc K hK
    have hc2 := hc
    simp only [beq_iff_eq, decide_eq_true_eq, decide_eq_false_iff_not, Bool.or_eq_true, Bool.and_eq_true, Bool.or_eq_false_iff, Bool.and_eq_false_iff] at hc2
    simp (disch := first | omega | decide) only [go_sem, f0, f1, opn_cond, hc, if_true]
    exact hK _
  apply aops_merge' (by decide) (by first | exact want_of (d := 9) rfl (by simp (disch := first | omega | decide) only [go_sem, f0, f1, opn_cond]; rfl) | exact want_of_cond (d := 9) rfl (by simp (disch := first | omega | decide) only [go_sem, f0, f1, opn_cond]; rfl))
  · intro hc K hK
    have hc2 := hc
    simp only [beq_iff_eq, decide_eq_true_eq, decide_eq_false_iff_not, Bool.or_eq_true, Bool.and_eq_true, Bool.or_eq_false_iff, Bool.and_eq_false_iff] at hc2
    simp (disch := first | omega | decide) only [go_sem, f0, f1, opn_cond, hc, if_true]
    exact hK _
  iterate 1 (apply aops_step (by decide) rfl; · (intro K hK; simp (disch := first | omega | decide) only [go_sem, f0, f1]; exact hK _))
  refine aops_nil ?_
  apply AW.cond
  · simp (disch := first | omega | decide) only [go_sem, f0, f1]; rfl
  case ht =>
    intro hb
    try simp only [Bool.or_eq_true, Bool.and_eq_true, Bool.or_eq_false_iff, Bool.and_eq_false_iff, decide_eq_true_eq, decide_eq_false_iff_not] at hb
    refine AW.seq ?_
    refine AW.region (cfg := cfg) ?_
    iterate 2 (apply aops_step (by decide) rfl; · (intro K hK; simp (disch := first | omega | decide) only [go_sem, f0, f1]; exact hK _))
    refine aops_nil ?_
    refine AW.ret ?_
    refine ⟨.inr rfl, ?_⟩
    refine leaves_mwp2 (rs := [.tmp 4, .tmp 5]) rfl ?_
    simp [giveL, srcOne, upd, opn, giveOne, reify, reifyL, readL, readOne, Mwp, M.bind, Mem.set, slotF, slotT, hG]
    first | (constructor <;> intro h1 h2 <;> rcases hb with h | h <;> first | omega | (simp [h1] at h)) | skip
    all_goals (have hm : mayP a b c = true := by simpa using hb.1)
    all_goals (obtain ⟨_, _, _, _, _, _, r1, r2, _, _⟩ := may_range hm)
    all_goals (have g2 : gen % 2 = 0 ∨ gen % 2 = 1 := by omega)
    all_goals (rw [if_neg (by simp [hm]; omega), if_neg (by simp [hm]; omega)])
    all_goals (rcases g2 with g2 | g2 <;> simp only [g2, Int.zero_mul, Int.one_mul] <;> simp only [wrap64 (n := 0) (by omega), wrap64 (n := a) (by omega), wrap64 (n := a + a) (by omega), wrap64 (n := 0 + a) (by omega), and_self])
  case hf =>
    intro hb
    try simp only [Bool.or_eq_true, Bool.and_eq_true, Bool.or_eq_false_iff, Bool.and_eq_false_iff, decide_eq_true_eq, decide_eq_false_iff_not] at hb
    refine AW.skip ?_
    refine AW.seq ?_
    refine AW.region (cfg := cfg) ?_
    iterate 2 (apply aops_step (by decide) rfl; · (intro K hK; simp (disch := first | omega | decide) only [go_sem, f0, f1]; exact hK _))
    apply aops_step (by decide) rfl
    · intro K hK
      simp (disch := first | omega | decide) only [go_sem, f0, f1, act_fieldAddr_t fo33_0, List.map]
      first | rw [mwp_fieldAddr_b (by simp (disch := first | omega | decide) only [go_sem, f0, f1]; rfl)] | skip
      exact hK _
    apply aops_step (by decide) rfl
    · intro K hK
      simp (disch := first | omega | decide) only [go_sem, f0, f1, act_load_t ti3, List.map]
      first | rw [mwp_load_bs (by simp (disch := first | omega | decide) only [go_sem, f0, f1]; rfl) (by simp)] | rw [mwp_load_b1 (by simp (disch := first | omega | decide) only [go_sem, f0, f1]; rfl) (by rfl)] | rw [mwp_aLoad_map (by simp (disch := first | omega | decide) only [go_sem, f0, f1]; rfl) (by first | omega | (simp; omega)) (fun _ => rfl)] | rw [mwp_aLoad_e1 (by simp (disch := first | omega | decide) only [go_sem, f0, f1]; rfl) (by simp) rfl] | skip
      exact hK _
    iterate 2 (apply aops_step (by decide) rfl; · (intro K hK; simp (disch := first | omega | decide) only [go_sem, f0, f1]; exact hK _))
    refine aops_nil ?_
    refine AW.seq ?_
    refine AW.draw (cfg := cfg) (by kernel_rfl) (by kernel_rfl) (by kernel_rfl) ?_
    iterate 2 (apply adraw_step rfl; · (intro K hK; simp (disch := first | omega | decide) only [go_sem, f0, f1]; exact hK))
    apply adraw_step rfl
    · intro K hK
      simp (disch := first | omega | decide) only [go_sem, f0, f1, act_fieldAddr_t fo33_0, List.map]
      first | rw [mwp_fieldAddr_b (by simp (disch := first | omega | decide) only [go_sem, f0, f1]; rfl)] | skip
      exact hK
    apply adraw_step rfl
    · intro K hK
      simp (disch := first | omega | decide) only [go_sem, f0, f1, act_load_t ti3, List.map]
      first | rw [mwp_load_bs (by simp (disch := first | omega | decide) only [go_sem, f0, f1]; rfl) (by simp)] | rw [mwp_load_b1 (by simp (disch := first | omega | decide) only [go_sem, f0, f1]; rfl) (by rfl)] | rw [mwp_aLoad_map (by simp (disch := first | omega | decide) only [go_sem, f0, f1]; rfl) (by first | omega | (simp; omega)) (fun _ => rfl)] | rw [mwp_aLoad_e1 (by simp (disch := first | omega | decide) only [go_sem, f0, f1]; rfl) (by simp) rfl] | skip
      exact hK
    iterate 3 (apply adraw_step rfl; · (intro K hK; simp (disch := first | omega | decide) only [go_sem, f0, f1]; exact hK))
    refine adraw_nil (by kernel_rfl) ?_
    refine AW.ret ?_
    refine ⟨.inr rfl, ?_⟩
    refine leaves_mwp2 (rs := [.tmp 4, .tmp 5]) rfl ?_
    simp [giveL, srcOne, upd, opn, giveOne, reify, reifyL, readL, readOne, Mwp, M.bind, Mem.set, slotF, slotT, hG]
    first | (constructor <;> intro h1 h2 <;> rcases hb with h | h <;> first | omega | (simp [h1] at h)) | skip
    all_goals (have hm : mayP a b c = true := by simpa using hb.1)
    all_goals (obtain ⟨_, _, _, _, _, _, r1, r2, _, _⟩ := may_range hm)
    all_goals (have g2 : gen % 2 = 0 ∨ gen % 2 = 1 := by omega)
    all_goals (rw [if_neg (by simp [hm]; omega), if_neg (by simp [hm]; omega)])
    all_goals (rcases g2 with g2 | g2 <;> simp only [g2, Int.zero_mul, Int.one_mul] <;> simp only [wrap64 (n := 0) (by omega), wrap64 (n := a) (by omega), wrap64 (n := a + a) (by omega), wrap64 (n := 0 + a) (by omega), and_self])

set_option maxHeartbeats 4000000 in
set_option maxRecDepth 100000 in
theorem good_At (a b c i : Int) : Good Try.prog 24 [(.agg [i64 a, i64 b, i64 c], false), (i64 i, false)] [] [(i64 (atS a b c i), false)] [] := by
  refine good_of_body2 22 Try.func24 rfl rfl rfl (by simp) ?_
  intro s m ha hr hv hG
  have f0 : s 0 = .v (.agg [i64 a, i64 b, i64 c]) := ha 0 _ rfl
  have f1 : s 1 = .v (i64 i) := ha 1 _ rfl
  clear ha
  refine AW.seq ?_
  refine AW.region (cfg := cfg) ?_
  apply aops_step (by decide) rfl
  · intro K hK
    simp (disch := first | omega | decide) only [go_sem, f0, f1, act_box_t ti33, List.map]
    rw [settleL_vish _ _ (by rfl)]
    simp (disch := first | omega | decide) only [go_sem, f0, f1, cellsL, List.map, List.length_cons, List.length_nil, Nat.reduceAdd, if_true]
    exact hK _
  iterate 1 (apply aops_step (by decide) rfl; · (intro K hK; simp (disch := first | omega | decide) only [go_sem, f0, f1]; exact hK _))
  refine aops_nil ?_
  refine AW.seq ?_
  refine AW.seq ?_
  refine AW.region (cfg := cfg) ?_
  apply aops_step (by decide) rfl
  · intro K hK
    simp (disch := first | omega | decide) only [go_sem, f0, f1, act_load_t ti33, List.map]
    first | rw [mwp_load_bs (by simp (disch := first | omega | decide) only [go_sem, f0, f1]; rfl) (by simp)] | rw [mwp_load_b1 (by simp (disch := first | omega | decide) only [go_sem, f0, f1]; rfl) (by rfl)] | rw [mwp_aLoad_map (by simp (disch := first | omega | decide) only [go_sem, f0, f1]; rfl) (by first | omega | (simp; omega)) (fun _ => rfl)] | rw [mwp_aLoad_e1 (by simp (disch := first | omega | decide) only [go_sem, f0, f1]; rfl) (by simp) rfl] | skip
    exact hK _
  apply aops_step (by decide) rfl
  · intro K hK
    simp (disch := first | omega | decide) only [go_sem, f0, f1, act_call, List.map]
    apply mwp_call_s rfl rfl rfl
    · intro Q hQ
      simp (disch := first | omega | decide) only [go_sem, f0, f1, peekL]
      first | exact hQ | (rw [peek_own (by simp (disch := first | omega | decide) only [go_sem, f0, f1, peekL]; rfl)]; exact hQ) | (rw [peek_own (by simp (disch := first | omega | decide) only [go_sem, f0, f1, peekL]; rfl)]; simp (disch := first | omega | decide) only [go_sem, f0, f1, peekL]; rw [peek_own (by simp (disch := first | omega | decide) only [go_sem, f0, f1, peekL]; rfl)]; exact hQ) | (rw [peek_own (by simp (disch := first | omega | decide) only [go_sem, f0, f1, peekL]; rfl)]; simp (disch := first | omega | decide) only [go_sem, f0, f1, peekL]; exact hQ)
    · exact good_may _ _ _
    · simp [-List.map_take, -List.map_drop, noPtrL, noPtr, noPtrL_bsl, noPtrL_map, sub]
    · rfl
    · exact hK _
  iterate 2 (apply aops_step (by decide) rfl; · (intro K hK; simp (disch := first | omega | decide) only [go_sem, f0, f1]; exact hK _))
  apply aops_merge' (by decide) (by first | exact want_of (d := 8) rfl (by simp (disch := first | omega | decide) only [go_sem, f0, f1, opn_cond]; rfl) | exact want_of_cond (d := 8) rfl (by simp (disch := first | omega | decide) only [go_sem, f0, f1, opn_cond]; rfl))
  · intro hc K hK
    have hc2 := hc
    simp only [beq_iff_eq, decide_eq_true_eq, decide_eq_false_iff_not, Bool.or_eq_true, Bool.and_eq_true, Bool.or_eq_false_iff, Bool.and_eq_false_iff] at hc2
    simp (disch := first | omega | decide) only [go_sem, f0, f1, opn_cond, hc, if_true]
    exact hK _
  apply aops_merge' (by decide) (by first | exact want_of (d := 8) rfl (by simp (disch := first | omega | decide) only [go_sem, f0, f1, opn_cond]; rfl) | exact want_of_cond (d := 8) rfl (by simp (disch := first | omega | decide) only [go_sem, f0, f1, opn_cond]; rfl))
  · intro hc K hK
    have hc2 := hc
    simp only [beq_iff_eq, decide_eq_true_eq, decide_eq_false_iff_not, Bool.or_eq_true, Bool.and_eq_true, Bool.or_eq_false_iff, Bool.and_eq_false_iff] at hc2
    simp (disch := first | omega | decide) only [go_sem, f0, f1, opn_cond, hc, if_true]
    exact hK _
  iterate 2 (apply aops_step (by decide) rfl; · (intro K hK; simp (disch := first | omega | decide) only [go_sem, f0, f1]; exact hK _))
  apply aops_merge' (by decide) (by first | exact want_of (d := 12) rfl (by simp (disch := first | omega | decide) only [go_sem, f0, f1, opn_cond]; rfl) | exact want_of_cond (d := 12) rfl (by simp (disch := first | omega | decide) only [go_sem, f0, f1, opn_cond]; rfl))
  · intro hc K hK
    have hc2 := hc
    simp only [beq_iff_eq, decide_eq_true_eq, decide_eq_false_iff_not, Bool.or_eq_true, Bool.and_eq_true, Bool.or_eq_false_iff, Bool.and_eq_false_iff] at hc2
    simp (disch := first | omega | decide) only [go_sem, f0, f1, opn_cond, hc, if_true]
    exact hK _
  apply aops_merge' (by decide) (by first | exact want_of (d := 12) rfl (by simp (disch := first | omega | decide) only [go_sem, f0, f1, opn_cond]; rfl) | exact want_of_cond (d := 12) rfl (by simp (disch := first | omega | decide) only [go_sem, f0, f1, opn_cond]; rfl))
  · intro hc K hK
    have hc2 := hc
    simp only [beq_iff_eq, decide_eq_true_eq, decide_eq_false_iff_not, Bool.or_eq_true, Bool.and_eq_true, Bool.or_eq_false_iff, Bool.and_eq_false_iff] at hc2
    simp (disch := first | omega | decide) only [go_sem, f0, f1, opn_cond, hc, if_true, act_fieldAddr_t fo33_2]
    first | rw [mwp_fieldAddr_b (by simp (disch := first | omega | decide) only [go_sem, f0, f1, opn_cond, hc, if_true]; rfl)] | skip
    exact hK _
  apply aops_merge' (by decide) (by first | exact want_of (d := 12) rfl (by simp (disch := first | omega | decide) only [go_sem, f0, f1, opn_cond]; rfl) | exact want_of_cond (d := 12) rfl (by simp (disch := first | omega | decide) only [go_sem, f0, f1, opn_cond]; rfl))
  · intro hc K hK
    have hc2 := hc
    simp only [beq_iff_eq, decide_eq_true_eq, decide_eq_false_iff_not, Bool.or_eq_true, Bool.and_eq_true, Bool.or_eq_false_iff, Bool.and_eq_false_iff] at hc2
    simp (disch := first | omega | decide) only [go_sem, f0, f1, opn_cond, hc, if_true, act_load_t ti3]
    first | rw [mwp_load_bs (by simp (disch := first | omega | decide) only [go_sem, f0, f1, opn_cond, hc, if_true]; rfl) (by simp)] | rw [mwp_load_b1 (by simp (disch := first | omega | decide) only [go_sem, f0, f1, opn_cond, hc, if_true]; rfl) (by rfl)] | rw [mwp_aLoad_map (by simp (disch := first | omega | decide) only [go_sem, f0, f1, opn_cond, hc, if_true]; rfl) (by first | omega | (simp; omega)) (fun _ => rfl)] | rw [mwp_aLoad_e1 (by simp (disch := first | omega | decide) only [go_sem, f0, f1, opn_cond, hc, if_true]; rfl) (by simp) rfl] | skip
    exact hK _
  apply aops_merge' (by decide) (by first | exact want_of (d := 12) rfl (by simp (disch := first | omega | decide) only [go_sem, f0, f1, opn_cond]; rfl) | exact want_of_cond (d := 12) rfl (by simp (disch := first | omega | decide) only [go_sem, f0, f1, opn_cond]; rfl))
  · intro hc K hK
    have hc2 := hc
    simp only [beq_iff_eq, decide_eq_true_eq, decide_eq_false_iff_not, Bool.or_eq_true, Bool.and_eq_true, Bool.or_eq_false_iff, Bool.and_eq_false_iff] at hc2
    simp (disch := first | omega | decide) only [go_sem, f0, f1, opn_cond, hc, if_true]
    exact hK _
  iterate 1 (apply aops_step (by decide) rfl; · (intro K hK; simp (disch := first | omega | decide) only [go_sem, f0, f1]; exact hK _))
  refine aops_nil ?_
  apply AW.cond
  · simp (disch := first | omega | decide) only [go_sem, f0, f1]; rfl
  case ht =>
    intro hb
    try simp only [Bool.or_eq_true, Bool.and_eq_true, Bool.or_eq_false_iff, Bool.and_eq_false_iff, decide_eq_true_eq, decide_eq_false_iff_not] at hb
    refine AW.seq ?_
    refine AW.region (cfg := cfg) ?_
    iterate 1 (apply aops_step (by decide) rfl; · (intro K hK; simp (disch := first | omega | decide) only [go_sem, f0, f1]; exact hK _))
    refine aops_nil ?_
    refine AW.ret ?_
    refine ⟨.inr rfl, ?_⟩
    refine leaves_tmp1 4 rfl ?_ (by first | rfl | exact hG)
    simp (disch := first | omega | decide) only [go_sem, f0, f1]
    first | (rw [atS, if_pos (by simpa [or_assoc] using hb)]) | (obtain ⟨_, _, _, _, _, q1, _, _, q2, q3⟩ := may_range (show mayP a b c = true by simpa using hb.1.1); rw [atS, if_neg (by rw [show mayP a b c = true by simpa using hb.1.1]; simp; omega), wrap64 (by omega)])
  case hf =>
    intro hb
    try simp only [Bool.or_eq_true, Bool.and_eq_true, Bool.or_eq_false_iff, Bool.and_eq_false_iff, decide_eq_true_eq, decide_eq_false_iff_not] at hb
    refine AW.skip ?_
    refine AW.seq ?_
    refine AW.region (cfg := cfg) ?_
    apply aops_step (by decide) rfl
    · intro K hK
      simp (disch := first | omega | decide) only [go_sem, f0, f1, act_fieldAddr_t fo33_1, List.map]
      first | rw [mwp_fieldAddr_b (by simp (disch := first | omega | decide) only [go_sem, f0, f1]; rfl)] | skip
      exact hK _
    apply aops_step (by decide) rfl
    · intro K hK
      simp (disch := first | omega | decide) only [go_sem, f0, f1, act_load_t ti3, List.map]
      first | rw [mwp_load_bs (by simp (disch := first | omega | decide) only [go_sem, f0, f1]; rfl) (by simp)] | rw [mwp_load_b1 (by simp (disch := first | omega | decide) only [go_sem, f0, f1]; rfl) (by rfl)] | rw [mwp_aLoad_map (by simp (disch := first | omega | decide) only [go_sem, f0, f1]; rfl) (by first | omega | (simp; omega)) (fun _ => rfl)] | rw [mwp_aLoad_e1 (by simp (disch := first | omega | decide) only [go_sem, f0, f1]; rfl) (by simp) rfl] | skip
      exact hK _
    iterate 3 (apply aops_step (by decide) rfl; · (intro K hK; simp (disch := first | omega | decide) only [go_sem, f0, f1]; exact hK _))
    refine aops_nil ?_
    refine AW.ret ?_
    refine ⟨.inr rfl, ?_⟩
    refine leaves_tmp1 4 rfl ?_ (by first | rfl | exact hG)
    simp (disch := first | omega | decide) only [go_sem, f0, f1]
    first | (rw [atS, if_pos (by simpa [or_assoc] using hb)]) | (obtain ⟨_, _, _, _, _, q1, _, _, q2, q3⟩ := may_range (show mayP a b c = true by simpa using hb.1.1); rw [atS, if_neg (by rw [show mayP a b c = true by simpa using hb.1.1]; simp; omega), wrap64 (by omega)])

theorem e20 : eOf 20 = 0 := by decide
theorem s20 : pS 20 = 5 := by decide
theorem f20 : pF 20 = 10 := by decide
theorem l20 : pL 20 = 10 := by decide
theorem a20 : atS 5 10 10 3 = 13 := by decide
set_option maxHeartbeats 4000000 in
set_option maxRecDepth 100000 in
theorem good_awake  : Good Try.prog 26 [] [] [(.b true, false)] [] := by
  refine good_of_body2 19 Try.func26 rfl rfl rfl (by simp) ?_
  intro s m ha hr hv hG
  clear ha
  refine AW.seq ?_
  refine AW.region (cfg := cfg) ?_
  iterate 1 (apply aops_step (by decide) rfl; · (intro K hK; simp (disch := first | omega | decide) only [go_sem, e20, s20, f20, l20, a20, eq_self, decide_true, beq_self_eq_true, Bool.and_true, Option.map_some, Bool.and_self]; exact hK _))
  refine aops_nil ?_
  refine AW.seq ?_
  refine AW.region (cfg := cfg) ?_
  apply aops_step (by decide) rfl
  · intro K hK
    simp (disch := first | omega | decide) only [go_sem, act_call, List.map, e20, s20, f20, l20, a20, eq_self, decide_true, beq_self_eq_true, Bool.and_true, Option.map_some, Bool.and_self]
    apply mwp_call_r rfl rfl rfl
    · intro Q hQ
      simp (disch := first | omega | decide) only [go_sem, peekL, e20, s20, f20, l20, a20, eq_self, decide_true, beq_self_eq_true, Bool.and_true, Option.map_some, Bool.and_self]
      first | exact hQ | (rw [peek_own (by simp (disch := first | omega | decide) only [go_sem, peekL, e20, s20, f20, l20, a20, eq_self, decide_true, beq_self_eq_true, Bool.and_true, Option.map_some, Bool.and_self]; rfl)]; exact hQ) | (rw [peek_own (by simp (disch := first | omega | decide) only [go_sem, peekL, e20, s20, f20, l20, a20, eq_self, decide_true, beq_self_eq_true, Bool.and_true, Option.map_some, Bool.and_self]; rfl)]; simp (disch := first | omega | decide) only [go_sem, peekL, e20, s20, f20, l20, a20, eq_self, decide_true, beq_self_eq_true, Bool.and_true, Option.map_some, Bool.and_self]; rw [peek_own (by simp (disch := first | omega | decide) only [go_sem, peekL, e20, s20, f20, l20, a20, eq_self, decide_true, beq_self_eq_true, Bool.and_true, Option.map_some, Bool.and_self]; rfl)]; exact hQ) | (rw [peek_own (by simp (disch := first | omega | decide) only [go_sem, peekL, e20, s20, f20, l20, a20, eq_self, decide_true, beq_self_eq_true, Bool.and_true, Option.map_some, Bool.and_self]; rfl)]; simp (disch := first | omega | decide) only [go_sem, peekL, e20, s20, f20, l20, a20, eq_self, decide_true, beq_self_eq_true, Bool.and_true, Option.map_some, Bool.and_self]; exact hQ)
    · exact good_Make _
    · simp [-List.map_take, -List.map_drop, noPtrL, noPtr, noPtrL_bsl, noPtrL_map, sub]
    · simp (disch := first | omega | decide) only [go_sem, e20, s20, f20, l20, a20, eq_self, decide_true, beq_self_eq_true, Bool.and_true, Option.map_some, Bool.and_self]
      exact hK _
  iterate 3 (apply aops_step (by decide) rfl; · (intro K hK; simp (disch := first | omega | decide) only [go_sem, e20, s20, f20, l20, a20, eq_self, decide_true, beq_self_eq_true, Bool.and_true, Option.map_some, Bool.and_self]; exact hK _))
  apply aops_step (by decide) rfl
  · intro K hK
    simp (disch := first | omega | decide) only [go_sem, act_alloc_t ti33, List.map, e20, s20, f20, l20, a20, eq_self, decide_true, beq_self_eq_true, Bool.and_true, Option.map_some, Bool.and_self]
    exact hK _
  apply aops_step0 rfl
  · intro K hK
    simp (disch := first | omega | decide) only [go_sem, act_store_t ti33, List.map, e20, s20, f20, l20, a20, eq_self, decide_true, beq_self_eq_true, Bool.and_true, Option.map_some, Bool.and_self]
    first | rw [mwp_store_c (by simp (disch := first | omega | decide) only [go_sem, e20, s20, f20, l20, a20, eq_self, decide_true, beq_self_eq_true, Bool.and_true, Option.map_some, Bool.and_self]; rfl) (by rfl) (by rfl) (by rfl) (by simp)] | rw [mwp_aStore_map (by simp (disch := first | omega | decide) only [go_sem, e20, s20, f20, l20, a20, eq_self, decide_true, beq_self_eq_true, Bool.and_true, Option.map_some, Bool.and_self]; rfl) (by first | omega | (simp; omega)) (fun _ => rfl) rfl rfl (fun _ => rfl)] | skip
    try simp only [setAt, cellsL, cellsOf_agg, cellsOf_base, List.map_cons, List.map_nil, List.set_cons_zero, List.set_cons_succ, Nat.reduceAdd, Nat.zero_add]
    exact hK _
  iterate 1 (apply aops_step (by decide) rfl; · (intro K hK; simp (disch := first | omega | decide) only [go_sem, e20, s20, f20, l20, a20, eq_self, decide_true, beq_self_eq_true, Bool.and_true, Option.map_some, Bool.and_self]; exact hK _))
  refine aops_nil ?_
  refine AW.seq ?_
  refine AW.region (cfg := cfg) ?_
  iterate 3 (apply aops_step (by decide) rfl; · (intro K hK; simp (disch := first | omega | decide) only [go_sem, e20, s20, f20, l20, a20, eq_self, decide_true, beq_self_eq_true, Bool.and_true, Option.map_some, Bool.and_self]; exact hK _))
  apply aops_step (by decide) rfl
  · intro K hK
    simp (disch := first | omega | decide) only [go_sem, act_load_t ti33, List.map, e20, s20, f20, l20, a20, eq_self, decide_true, beq_self_eq_true, Bool.and_true, Option.map_some, Bool.and_self]
    first | rw [mwp_load_bs (by simp (disch := first | omega | decide) only [go_sem, e20, s20, f20, l20, a20, eq_self, decide_true, beq_self_eq_true, Bool.and_true, Option.map_some, Bool.and_self]; rfl) (by simp)] | rw [mwp_load_b1 (by simp (disch := first | omega | decide) only [go_sem, e20, s20, f20, l20, a20, eq_self, decide_true, beq_self_eq_true, Bool.and_true, Option.map_some, Bool.and_self]; rfl) (by rfl)] | rw [mwp_aLoad_map (by simp (disch := first | omega | decide) only [go_sem, e20, s20, f20, l20, a20, eq_self, decide_true, beq_self_eq_true, Bool.and_true, Option.map_some, Bool.and_self]; rfl) (by first | omega | (simp; omega)) (fun _ => rfl)] | rw [mwp_aLoad_e1 (by simp (disch := first | omega | decide) only [go_sem, e20, s20, f20, l20, a20, eq_self, decide_true, beq_self_eq_true, Bool.and_true, Option.map_some, Bool.and_self]; rfl) (by simp) rfl] | skip
    exact hK _
  apply aops_step (by decide) rfl
  · intro K hK
    simp (disch := first | omega | decide) only [go_sem, act_build_t ti33 pl33, List.map, e20, s20, f20, l20, a20, eq_self, decide_true, beq_self_eq_true, Bool.and_true, Option.map_some, Bool.and_self]
    simp [-List.map_take, -List.map_drop, fillL, okOne, cellishAV, Value.oneCell', cellsL, cellsOf, setAt, M.bind, Mwp]
    exact hK _
  iterate 3 (apply aops_step (by decide) rfl; · (intro K hK; simp (disch := first | omega | decide) only [go_sem, bin_eql_s us33 fl33 eg33, e20, s20, f20, l20, a20, eq_self, decide_true, beq_self_eq_true, Bool.and_true, Option.map_some, Bool.and_self]; exact hK _))
  apply aops_step (by decide) rfl
  · intro K hK
    simp (disch := first | omega | decide) only [go_sem, act_load_t ti33, List.map, e20, s20, f20, l20, a20, eq_self, decide_true, beq_self_eq_true, Bool.and_true, Option.map_some, Bool.and_self]
    first | rw [mwp_load_bs (by simp (disch := first | omega | decide) only [go_sem, e20, s20, f20, l20, a20, eq_self, decide_true, beq_self_eq_true, Bool.and_true, Option.map_some, Bool.and_self]; rfl) (by simp)] | rw [mwp_load_b1 (by simp (disch := first | omega | decide) only [go_sem, e20, s20, f20, l20, a20, eq_self, decide_true, beq_self_eq_true, Bool.and_true, Option.map_some, Bool.and_self]; rfl) (by rfl)] | rw [mwp_aLoad_map (by simp (disch := first | omega | decide) only [go_sem, e20, s20, f20, l20, a20, eq_self, decide_true, beq_self_eq_true, Bool.and_true, Option.map_some, Bool.and_self]; rfl) (by first | omega | (simp; omega)) (fun _ => rfl)] | rw [mwp_aLoad_e1 (by simp (disch := first | omega | decide) only [go_sem, e20, s20, f20, l20, a20, eq_self, decide_true, beq_self_eq_true, Bool.and_true, Option.map_some, Bool.and_self]; rfl) (by simp) rfl] | skip
    exact hK _
  apply aops_step (by decide) rfl
  · intro K hK
    simp (disch := first | omega | decide) only [go_sem, act_call, List.map, e20, s20, f20, l20, a20, eq_self, decide_true, beq_self_eq_true, Bool.and_true, Option.map_some, Bool.and_self]
    apply mwp_call_s rfl rfl rfl
    · intro Q hQ
      simp (disch := first | omega | decide) only [go_sem, peekL, e20, s20, f20, l20, a20, eq_self, decide_true, beq_self_eq_true, Bool.and_true, Option.map_some, Bool.and_self]
      first | exact hQ | (rw [peek_own (by simp (disch := first | omega | decide) only [go_sem, peekL, e20, s20, f20, l20, a20, eq_self, decide_true, beq_self_eq_true, Bool.and_true, Option.map_some, Bool.and_self]; rfl)]; exact hQ) | (rw [peek_own (by simp (disch := first | omega | decide) only [go_sem, peekL, e20, s20, f20, l20, a20, eq_self, decide_true, beq_self_eq_true, Bool.and_true, Option.map_some, Bool.and_self]; rfl)]; simp (disch := first | omega | decide) only [go_sem, peekL, e20, s20, f20, l20, a20, eq_self, decide_true, beq_self_eq_true, Bool.and_true, Option.map_some, Bool.and_self]; rw [peek_own (by simp (disch := first | omega | decide) only [go_sem, peekL, e20, s20, f20, l20, a20, eq_self, decide_true, beq_self_eq_true, Bool.and_true, Option.map_some, Bool.and_self]; rfl)]; exact hQ) | (rw [peek_own (by simp (disch := first | omega | decide) only [go_sem, peekL, e20, s20, f20, l20, a20, eq_self, decide_true, beq_self_eq_true, Bool.and_true, Option.map_some, Bool.and_self]; rfl)]; simp (disch := first | omega | decide) only [go_sem, peekL, e20, s20, f20, l20, a20, eq_self, decide_true, beq_self_eq_true, Bool.and_true, Option.map_some, Bool.and_self]; exact hQ)
    · exact good_At _ _ _ _
    · simp [-List.map_take, -List.map_drop, noPtrL, noPtr, noPtrL_bsl, noPtrL_map, sub]
    · rfl
    · exact hK _
  iterate 3 (apply aops_step (by decide) rfl; · (intro K hK; simp (disch := first | omega | decide) only [go_sem, e20, s20, f20, l20, a20, eq_self, decide_true, beq_self_eq_true, Bool.and_true, Option.map_some, Bool.and_self]; exact hK _))
  refine aops_nil ?_
  refine AW.ret ?_
  refine ⟨.inr rfl, ?_⟩
  refine leaves_tmp1 0 rfl ?_ (by first | rfl | exact hG)
  simp (disch := first | omega | decide) only [go_sem, e20, s20, f20, l20, a20, eq_self, decide_true, beq_self_eq_true, Bool.and_true, Option.map_some, Bool.and_self]

def isIt (a b c n : Int) : Bool := pS n == a && (pF n == b && pL n == c)
def refMayP (a b c : Int) : Bool := (List.range 1019).any fun k => isIt a b c (6 + (k : Int))
set_option maxHeartbeats 4000000 in
set_option maxRecDepth 100000 in
theorem good_refMay (a b c : Int) : Good Try.prog 25 [(.agg [i64 a, i64 b, i64 c], false)] [] [(.b (refMayP a b c), false)] [] := by
  refine good_of_body2 12 Try.func25 rfl rfl rfl (by simp) ?_
  intro s m ha hr hv hG
  have f0 : s 0 = .v (.agg [i64 a, i64 b, i64 c]) := ha 0 _ rfl
  clear ha
  refine AW.seq ?_
  refine AW.region (cfg := cfg) ?_
  apply aops_step (by decide) rfl
  · intro K hK
    simp (disch := first | omega | decide) only [go_sem, f0, act_box_t ti33, List.map]
    rw [settleL_vish _ _ (by rfl)]
    simp (disch := first | omega | decide) only [go_sem, f0, cellsL, List.map, List.length_cons, List.length_nil, Nat.reduceAdd, if_true]
    exact hK _
  iterate 1 (apply aops_step (by decide) rfl; · (intro K hK; simp (disch := first | omega | decide) only [go_sem, f0]; exact hK _))
  refine aops_nil ?_
  refine AW.seq ?_
  refine AW.seq ?_
  refine AW.region (cfg := cfg) ?_
  iterate 1 (apply aops_step (by decide) rfl; · (intro K hK; simp (disch := first | omega | decide) only [go_sem, f0]; exact hK _))
  refine aops_nil ?_
  refine AW.block ?_
  refine AW.forN (fun k σ => ∃ s m, σ = ⟨12, s, m⟩ ∧ s 1 = .lptr (.tmp 1 0) (m.objs (.tmp 1 0)).1 0 ∧ (m.objs (.tmp 1 0)).2 = .box [.v (i64 a), .v (i64 b), .v (i64 c)] ∧ s 3 = .v (i64 (6 + (k : Int))) ∧ (∀ j, j < k → isIt a b c (6 + (j : Int)) = false) ∧ m.G = []) (1019) ?_ ?_ ?_
  · refine ⟨_, _, rfl, ?_, ?_, ?_, ?_, hG⟩ <;> try simp (disch := first | omega | decide) only [go_sem, f0]
    all_goals first | rfl | skip
    · intro j hj; omega
  · clear f0 hG
    rintro k σ hk ⟨s, m, rfl, f1, o1, f3, mo0, hG⟩
    obtain ⟨g1, o1⟩ : ∃ g, m.objs (.tmp 1 0) = (g, .box [.v (i64 a), .v (i64 b), .v (i64 c)]) := ⟨_, Prod.ext rfl o1⟩
    rw [o1] at f1
    refine AW.seq ?_
    refine AW.seq ?_
    refine AW.region (cfg := cfg) ?_
    iterate 2 (apply aops_step (by decide) rfl; · (intro K hK; simp (disch := first | omega | decide) only [go_sem, f1, f3, o1]; exact hK _))
    refine aops_nil ?_
    apply AW.cond
    · simp (disch := first | omega | decide) only [go_sem, f1, f3, o1]; rfl
    case hf => intro hb; first | (simp at hb; done) | (simp at hb; omega)
    case ht =>
    intro hb
    refine AW.skip ?_
    refine AW.seq ?_
    refine AW.block ?_
    refine AW.seq ?_
    refine AW.draw (cfg := cfg) (by kernel_rfl) (by kernel_rfl) (by kernel_rfl) ?_
    iterate 1 (apply adraw_step rfl; · (intro K hK; simp (disch := first | omega | decide) only [go_sem, f1, f3, o1]; exact hK))
    apply adraw_step rfl
    · intro K hK
      simp (disch := first | omega | decide) only [go_sem, f1, f3, o1, act_call, List.map]
      apply mwp_call_r rfl rfl rfl
      · intro Q hQ
        simp (disch := first | omega | decide) only [go_sem, f1, f3, o1, peekL]
        first | exact hQ | (rw [peek_own (by simp (disch := first | omega | decide) only [go_sem, f1, f3, o1, peekL]; rfl)]; exact hQ) | (rw [peek_own (by simp (disch := first | omega | decide) only [go_sem, f1, f3, o1, peekL]; rfl)]; simp (disch := first | omega | decide) only [go_sem, f1, f3, o1, peekL]; rw [peek_own (by simp (disch := first | omega | decide) only [go_sem, f1, f3, o1, peekL]; rfl)]; exact hQ) | (rw [peek_own (by simp (disch := first | omega | decide) only [go_sem, f1, f3, o1, peekL]; rfl)]; simp (disch := first | omega | decide) only [go_sem, f1, f3, o1, peekL]; exact hQ)
      · exact good_refMake _ (by omega)
      · simp [-List.map_take, -List.map_drop, noPtrL, noPtr, noPtrL_bsl, noPtrL_map, sub]
      · simp (disch := first | omega | decide) only [go_sem, f1, f3, o1]
        exact hK
    apply adraw_step rfl
    · intro K hK
      simp (disch := first | omega | decide) only [go_sem, f1, f3, o1, act_load_t ti33, List.map]
      first | rw [mwp_load_bs (by simp (disch := first | omega | decide) only [go_sem, f1, f3, o1]; rfl) (by simp)] | rw [mwp_load_b1 (by simp (disch := first | omega | decide) only [go_sem, f1, f3, o1]; rfl) (by rfl)] | rw [mwp_aLoad_map (by simp (disch := first | omega | decide) only [go_sem, f1, f3, o1]; rfl) (by first | omega | (simp; omega)) (fun _ => rfl)] | rw [mwp_aLoad_e1 (by simp (disch := first | omega | decide) only [go_sem, f1, f3, o1]; rfl) (by simp) rfl] | skip
      exact hK
    iterate 1 (apply adraw_step rfl; · (intro K hK; simp (disch := first | omega | decide) only [go_sem, f1, f3, o1, bin_eql_s us33 fl33 eg33]; exact hK))
    refine adraw_nil (by kernel_rfl) ?_
    apply AW.cond
    · simp (disch := first | omega | decide) only [go_sem, f1, f3, o1]; rfl
    case ht =>
      intro hb
      try simp only [Bool.or_eq_true, Bool.and_eq_true, Bool.or_eq_false_iff, Bool.and_eq_false_iff, decide_eq_true_eq, decide_eq_false_iff_not] at hb
      refine AW.seq ?_
      refine AW.region (cfg := cfg) ?_
      iterate 1 (apply aops_step (by decide) rfl; · (intro K hK; simp (disch := first | omega | decide) only [go_sem, f1, f3, o1]; exact hK _))
      refine aops_nil ?_
      refine AW.ret ?_
      refine ⟨.inr rfl, ?_⟩
      refine leaves_tmp1 2 rfl ?_ (by first | rfl | exact hG)
      simp (disch := first | omega | decide) only [go_sem, f1, f3, o1]
      first | (congr 3; symm; exact List.any_eq_true.2 ⟨k, List.mem_range.2 hk, by simpa [isIt] using hb⟩) | (congr 3; symm; rw [refMayP, List.any_eq_false]; intro j hj; simpa using mo0 j (List.mem_range.1 hj))
    case hf =>
      intro hb
      try simp only [Bool.or_eq_true, Bool.and_eq_true, Bool.or_eq_false_iff, Bool.and_eq_false_iff, decide_eq_true_eq, decide_eq_false_iff_not] at hb
      refine AW.skip ?_
      refine AW.region (cfg := cfg) ?_
      iterate 3 (apply aops_step (by decide) rfl; · (intro K hK; simp (disch := first | omega | decide) only [go_sem, f1, f3, o1]; exact hK _))
      refine aops_nil ?_
      refine ⟨_, _, rfl, ?_, ?_, ?_, ?_, hG⟩ <;> try simp (disch := first | omega | decide) only [go_sem, f1, f3, o1]
      all_goals first | rfl | skip
      · intro j hj
        rcases Nat.lt_or_ge j k with h | h
        · exact mo0 j h
        · have : j = k := by omega
          subst this
          simp only [isIt]
          simp at hb ⊢
          intro h1 h2 h3
          rcases hb with h | h | h <;> contradiction
  · clear f0 hG
    rintro σ ⟨s, m, rfl, f1, o1, f3, mo0, hG⟩
    obtain ⟨g1, o1⟩ : ∃ g, m.objs (.tmp 1 0) = (g, .box [.v (i64 a), .v (i64 b), .v (i64 c)]) := ⟨_, Prod.ext rfl o1⟩
    rw [o1] at f1
    refine AW.seq ?_
    refine AW.seq ?_
    refine AW.region (cfg := cfg) ?_
    iterate 2 (apply aops_step (by decide) rfl; · (intro K hK; simp (disch := first | omega | decide) only [go_sem, f1, f3, o1]; exact hK _))
    refine aops_nil ?_
    apply AW.cond
    · simp (disch := first | omega | decide) only [go_sem, f1, f3, o1]; rfl
    case ht => intro hb; first | (simp at hb; done) | (simp at hb; omega)
    case hf =>
    intro hb
    refine AW.exit ?_
    refine AW.seq ?_
    refine AW.region (cfg := cfg) ?_
    iterate 1 (apply aops_step (by decide) rfl; · (intro K hK; simp (disch := first | omega | decide) only [go_sem, f1, f3, o1]; exact hK _))
    refine aops_nil ?_
    refine AW.ret ?_
    refine ⟨.inr rfl, ?_⟩
    refine leaves_tmp1 2 rfl ?_ (by first | rfl | exact hG)
    simp (disch := first | omega | decide) only [go_sem, f1, f3, o1]
    first | (congr 3; symm; exact List.any_eq_true.2 ⟨k, List.mem_range.2 hk, by simpa [isIt] using hb⟩) | (congr 3; symm; rw [refMayP, List.any_eq_false]; intro j hj; simpa using mo0 j (List.mem_range.1 hj))

theorem pSum {n : Int} (h : 6 ≤ n ∧ n ≤ 1024) : pF n + pL n = n ∧ 0 ≤ pF n ∧ pF n ≤ 1024 ∧ 0 ≤ pL n ∧ pL n ≤ 1024 := by
  rw [pF, pL, if_neg (by omega), if_neg (by omega)]; omega
theorem refMay_may (a b c : Int) : refMayP a b c = mayP a b c := by
  rw [Bool.eq_iff_iff]
  constructor
  · intro h
    obtain ⟨k, hk, h⟩ := List.any_eq_true.1 h
    have hk := List.mem_range.1 hk
    simp only [isIt, Bool.and_eq_true, beq_iff_eq] at h
    obtain ⟨h1, h2, h3⟩ := h
    obtain ⟨q1, q2, q3, q4, q5⟩ := pSum (n := 6 + (k : Int)) (by omega)
    rw [mayP, if_neg (by omega), show b + c = 6 + (k : Int) by omega]
    simp [h1, h2, h3, eOf]; omega
  · intro h
    obtain ⟨r1, r2, r3, _, r4, r5, _⟩ := may_range h
    refine List.any_eq_true.2 ⟨(b + c - 6).toNat, List.mem_range.2 (by omega), ?_⟩
    rw [show 6 + (((b + c - 6).toNat : Nat) : Int) = b + c by omega]
    simp only [isIt, Bool.and_eq_true, beq_iff_eq]
    exact ⟨r1.symm, r2.symm, r3.symm⟩
theorem e_no {n : Int} (h : n < 6 ∨ n > 1024) : eOf n = 1 ∧ pS n = 0 ∧ pF n = 0 ∧ pL n = 0 := by simp [eOf, pS, pF, pL, h]
theorem e_ok {n : Int} (h : ¬ (n < 6 ∨ n > 1024)) : eOf n = 0 := by simp [eOf, h]
theorem slot_no {a b c : Int} (h : mayP a b c = false) (gen i : Int) : slotF a b c gen = 0 ∧ slotT a b c gen = 0 ∧ atS a b c i = -1 := by simp [slotF, slotT, atS, h]
theorem slot_neg {a b c gen : Int} (h : gen < 0) : slotF a b c gen = 0 ∧ slotT a b c gen = 0 := by simp [slotF, slotT, h]
theorem slot_is {a b c gen : Int} (hm : mayP a b c = true) (h : gen ≥ 0) : slotF a b c gen = IntKind.i64.wrap (gen % 2 * a) ∧ slotT a b c gen = IntKind.i64.wrap (slotF a b c gen + a) := by
  obtain ⟨_, _, _, _, _, _, r1, r2, _, _⟩ := may_range hm
  have g2 : gen % 2 = 0 ∨ gen % 2 = 1 := by omega
  simp only [slotF, slotT]
  rw [if_neg (by simp [hm]; omega), if_neg (by simp [hm]; omega)]
  rcases g2 with g2 | g2 <;> simp only [g2, Int.zero_mul, Int.one_mul] <;> rw [wrap64 (by omega), wrap64 (by omega)] <;> exact ⟨rfl, rfl⟩
theorem at_no {a b c i : Int} (h : i < 0 ∨ i ≥ c) : atS a b c i = -1 := by rw [atS, if_pos (.inr h)]
theorem at_is {a b c i : Int} (hm : mayP a b c = true) (h : ¬ (i < 0 ∨ i ≥ c)) : atS a b c i = IntKind.i64.wrap (b + i) := by
  obtain ⟨_, _, _, _, _, q1, _, _, q2, q3⟩ := may_range hm
  rw [atS, if_neg (by simp [hm]; omega), wrap64 (by omega)]
set_option maxHeartbeats 4000000 in
set_option maxRecDepth 100000 in
theorem good_PlotMakes (n a b c gen i : Int) : Good Try.prog 6 [(i64 n, false), (.agg [i64 a, i64 b, i64 c], false), (.agg [i64 gen, i64 i], false)] [] [(.b true, false)] [] := by
  refine good_of_body2 122 Try.func6 rfl rfl rfl (by simp) ?_
  intro s m ha hr hv hG
  have f0 : s 0 = .v (i64 n) := ha 0 _ rfl
  have f1 : s 1 = .v (.agg [i64 a, i64 b, i64 c]) := ha 1 _ rfl
  have f2 : s 2 = .v (.agg [i64 gen, i64 i]) := ha 2 _ rfl
  clear ha
  refine AW.seq ?_
  refine AW.region (cfg := cfg) ?_
  apply aops_step (by decide) rfl
  · intro K hK
    simp (disch := first | omega | decide) only [go_sem, f0, f1, f2, act_box_t ti33, List.map]
    rw [settleL_vish _ _ (by rfl)]
    simp (disch := first | omega | decide) only [go_sem, f0, f1, f2, cellsL, List.map, List.length_cons, List.length_nil, Nat.reduceAdd, if_true]
    exact hK _
  apply aops_step (by decide) rfl
  · intro K hK
    simp (disch := first | omega | decide) only [go_sem, f0, f1, f2, act_box_t ti34, List.map]
    rw [settleL_vish _ _ (by rfl)]
    simp (disch := first | omega | decide) only [go_sem, f0, f1, f2, cellsL, List.map, List.length_cons, List.length_nil, Nat.reduceAdd, if_true]
    exact hK _
  iterate 1 (apply aops_step (by decide) rfl; · (intro K hK; simp (disch := first | omega | decide) only [go_sem, f0, f1, f2]; exact hK _))
  refine aops_nil ?_
  refine AW.seq ?_
  refine AW.region (cfg := cfg) ?_
  iterate 1 (apply aops_step (by decide) rfl; · (intro K hK; simp (disch := first | omega | decide) only [go_sem, f0, f1, f2]; exact hK _))
  apply aops_step (by decide) rfl
  · intro K hK
    simp (disch := first | omega | decide) only [go_sem, f0, f1, f2, act_call, List.map]
    apply mwp_call_r rfl rfl rfl
    · intro Q hQ
      simp (disch := first | omega | decide) only [go_sem, f0, f1, f2, peekL]
      first | exact hQ | (rw [peek_own (by simp (disch := first | omega | decide) only [go_sem, f0, f1, f2, peekL]; rfl)]; exact hQ) | (rw [peek_own (by simp (disch := first | omega | decide) only [go_sem, f0, f1, f2, peekL]; rfl)]; simp (disch := first | omega | decide) only [go_sem, f0, f1, f2, peekL]; rw [peek_own (by simp (disch := first | omega | decide) only [go_sem, f0, f1, f2, peekL]; rfl)]; exact hQ) | (rw [peek_own (by simp (disch := first | omega | decide) only [go_sem, f0, f1, f2, peekL]; rfl)]; simp (disch := first | omega | decide) only [go_sem, f0, f1, f2, peekL]; exact hQ)
    · exact good_Make _
    · simp [-List.map_take, -List.map_drop, noPtrL, noPtr, noPtrL_bsl, noPtrL_map, sub]
    · simp (disch := first | omega | decide) only [go_sem, f0, f1, f2]
      exact hK _
  iterate 3 (apply aops_step (by decide) rfl; · (intro K hK; simp (disch := first | omega | decide) only [go_sem, f0, f1, f2]; exact hK _))
  apply aops_step (by decide) rfl
  · intro K hK
    simp (disch := first | omega | decide) only [go_sem, f0, f1, f2, act_alloc_t ti33, List.map]
    exact hK _
  apply aops_step0 rfl
  · intro K hK
    simp (disch := first | omega | decide) only [go_sem, f0, f1, f2, act_store_t ti33, List.map]
    first | rw [mwp_store_c (by simp (disch := first | omega | decide) only [go_sem, f0, f1, f2]; rfl) (by rfl) (by rfl) (by rfl) (by simp)] | rw [mwp_aStore_map (by simp (disch := first | omega | decide) only [go_sem, f0, f1, f2]; rfl) (by first | omega | (simp; omega)) (fun _ => rfl) rfl rfl (fun _ => rfl)] | skip
    try simp only [setAt, cellsL, cellsOf_agg, cellsOf_base, List.map_cons, List.map_nil, List.set_cons_zero, List.set_cons_succ, Nat.reduceAdd, Nat.zero_add]
    exact hK _
  iterate 1 (apply aops_step (by decide) rfl; · (intro K hK; simp (disch := first | omega | decide) only [go_sem, f0, f1, f2]; exact hK _))
  refine aops_nil ?_
  refine AW.seq ?_
  refine AW.seq ?_
  refine AW.region (cfg := cfg) ?_
  iterate 3 (apply aops_step (by decide) rfl; · (intro K hK; simp (disch := first | omega | decide) only [go_sem, f0, f1, f2]; exact hK _))
  apply aops_merge' (by decide) (by first | exact want_of (d := 21) rfl (by simp (disch := first | omega | decide) only [go_sem, f0, f1, f2, opn_cond]; rfl) | exact want_of_cond (d := 21) rfl (by simp (disch := first | omega | decide) only [go_sem, f0, f1, f2, opn_cond]; rfl))
  · intro hc K hK
    have hc2 := hc
    simp only [beq_iff_eq, decide_eq_true_eq, decide_eq_false_iff_not, Bool.or_eq_true, Bool.and_eq_true, Bool.or_eq_false_iff, Bool.and_eq_false_iff] at hc2
    simp (disch := first | omega | decide) only [go_sem, f0, f1, f2, opn_cond, hc, if_true]
    exact hK _
  apply aops_merge' (by decide) (by first | exact want_of (d := 21) rfl (by simp (disch := first | omega | decide) only [go_sem, f0, f1, f2, opn_cond]; rfl) | exact want_of_cond (d := 21) rfl (by simp (disch := first | omega | decide) only [go_sem, f0, f1, f2, opn_cond]; rfl))
  · intro hc K hK
    have hc2 := hc
    simp only [beq_iff_eq, decide_eq_true_eq, decide_eq_false_iff_not, Bool.or_eq_true, Bool.and_eq_true, Bool.or_eq_false_iff, Bool.and_eq_false_iff] at hc2
    simp (disch := first | omega | decide) only [go_sem, f0, f1, f2, opn_cond, hc, if_true]
    exact hK _
  iterate 1 (apply aops_step (by decide) rfl; · (intro K hK; simp (disch := first | omega | decide) only [go_sem, f0, f1, f2]; exact hK _))
  refine aops_nil ?_
  apply AW.cond
  · simp (disch := first | omega | decide) only [go_sem, f0, f1, f2]; rfl
  case ht =>
    intro hb
    try simp only [Bool.or_eq_true, Bool.and_eq_true, Bool.or_eq_false_iff, Bool.and_eq_false_iff, decide_eq_true_eq, decide_eq_false_iff_not] at hb
    refine AW.seq ?_
    refine AW.region (cfg := cfg) ?_
    iterate 3 (apply aops_step (by decide) rfl; · (intro K hK; simp (disch := first | omega | decide) only [go_sem, f0, f1, f2]; exact hK _))
    apply aops_merge' (by decide) (by first | exact want_of (d := 27) rfl (by simp (disch := first | omega | decide) only [go_sem, f0, f1, f2, opn_cond]; rfl) | exact want_of_cond (d := 27) rfl (by simp (disch := first | omega | decide) only [go_sem, f0, f1, f2, opn_cond]; rfl))
    · intro hc K hK
      have hc2 := hc
      simp only [beq_iff_eq, decide_eq_true_eq, decide_eq_false_iff_not, Bool.or_eq_true, Bool.and_eq_true, Bool.or_eq_false_iff, Bool.and_eq_false_iff] at hc2
      simp (disch := first | omega | decide) only [go_sem, f0, f1, f2, opn_cond, hc, if_true, act_load_t ti33]
      first | rw [mwp_load_bs (by simp (disch := first | omega | decide) only [go_sem, f0, f1, f2, opn_cond, hc, if_true]; rfl) (by simp)] | rw [mwp_load_b1 (by simp (disch := first | omega | decide) only [go_sem, f0, f1, f2, opn_cond, hc, if_true]; rfl) (by rfl)] | rw [mwp_aLoad_map (by simp (disch := first | omega | decide) only [go_sem, f0, f1, f2, opn_cond, hc, if_true]; rfl) (by first | omega | (simp; omega)) (fun _ => rfl)] | rw [mwp_aLoad_e1 (by simp (disch := first | omega | decide) only [go_sem, f0, f1, f2, opn_cond, hc, if_true]; rfl) (by simp) rfl] | skip
      exact hK _
    apply aops_merge' (by decide) (by first | exact want_of (d := 27) rfl (by simp (disch := first | omega | decide) only [go_sem, f0, f1, f2, opn_cond]; rfl) | exact want_of_cond (d := 27) rfl (by simp (disch := first | omega | decide) only [go_sem, f0, f1, f2, opn_cond]; rfl))
    · intro hc K hK
      have hc2 := hc
      simp only [beq_iff_eq, decide_eq_true_eq, decide_eq_false_iff_not, Bool.or_eq_true, Bool.and_eq_true, Bool.or_eq_false_iff, Bool.and_eq_false_iff] at hc2
      simp (disch := first | omega | decide) only [go_sem, f0, f1, f2, opn_cond, hc, if_true, act_build_t ti33 pl33]
      simp [-List.map_take, -List.map_drop, fillL, okOne, cellishAV, Value.oneCell', cellsL, cellsOf, setAt, M.bind, Mwp]
      exact hK _
    apply aops_merge' (by decide) (by first | exact want_of (d := 27) rfl (by simp (disch := first | omega | decide) only [go_sem, f0, f1, f2, opn_cond]; rfl) | exact want_of_cond (d := 27) rfl (by simp (disch := first | omega | decide) only [go_sem, f0, f1, f2, opn_cond]; rfl))
    · intro hc K hK
      have hc2 := hc
      simp only [beq_iff_eq, decide_eq_true_eq, decide_eq_false_iff_not, Bool.or_eq_true, Bool.and_eq_true, Bool.or_eq_false_iff, Bool.and_eq_false_iff] at hc2
      simp (disch := first | omega | decide) only [go_sem, f0, f1, f2, opn_cond, hc, if_true, bin_neq_s us33 fl33 eg33]
      exact hK _
    iterate 1 (apply aops_step (by decide) rfl; · (intro K hK; simp (disch := first | omega | decide) only [go_sem, f0, f1, f2]; exact hK _))
    refine aops_nil ?_
    apply AW.cond
    · simp (disch := first | omega | decide) only [go_sem, f0, f1, f2]; rfl
    case ht =>
      intro hb
      try simp only [Bool.or_eq_true, Bool.and_eq_true, Bool.or_eq_false_iff, Bool.and_eq_false_iff, decide_eq_true_eq, decide_eq_false_iff_not] at hb
      refine AW.seq ?_
      refine AW.region (cfg := cfg) ?_
      iterate 1 (apply aops_step (by decide) rfl; · (intro K hK; simp (disch := first | omega | decide) only [go_sem, f0, f1, f2]; exact hK _))
      refine aops_nil ?_
      refine AW.ret ?_
      refine ⟨.inr rfl, ?_⟩
      refine leaves_tmp1 6 rfl ?_ (by first | rfl | exact hG)
      simp (disch := first | omega | decide) only [go_sem, f0, f1, f2]
      clear hr hv hG f0 f1 f2
      have hM := refMay_may a b c
      have q0 := e_no (n := n)
      have q1 := e_ok (n := n)
      have q2 := fun h => slot_no (a := a) (b := b) (c := c) h gen i
      have q3 := slot_neg (a := a) (b := b) (c := c) (gen := gen)
      have q4 := slot_is (a := a) (b := b) (c := c) (gen := gen)
      have q5 := at_no (a := a) (b := b) (c := c) (i := i)
      have q6 := at_is (a := a) (b := b) (c := c) (i := i)
      cases hmp : mayP a b c <;> first | grind | (simp_all; done) | trace_state
    case hf =>
      intro hb
      try simp only [Bool.or_eq_true, Bool.and_eq_true, Bool.or_eq_false_iff, Bool.and_eq_false_iff, decide_eq_true_eq, decide_eq_false_iff_not] at hb
      refine AW.skip ?_
      refine AW.seq ?_
      refine AW.draw (cfg := cfg) (by kernel_rfl) (by kernel_rfl) (by kernel_rfl) ?_
      apply adraw_step rfl
      · intro K hK
        simp (disch := first | omega | decide) only [go_sem, f0, f1, f2, act_indexAddr_a u34 ti3 (by decide), List.map]
        first | rw [mwp_fieldAddr_b (by simp (disch := first | omega | decide) only [go_sem, f0, f1, f2]; rfl)] | skip
        exact hK
      apply adraw_step rfl
      · intro K hK
        simp (disch := first | omega | decide) only [go_sem, f0, f1, f2, act_load_t ti3, List.map]
        first | rw [mwp_load_bs (by simp (disch := first | omega | decide) only [go_sem, f0, f1, f2]; rfl) (by simp)] | rw [mwp_load_b1 (by simp (disch := first | omega | decide) only [go_sem, f0, f1, f2]; rfl) (by rfl)] | rw [mwp_aLoad_map (by simp (disch := first | omega | decide) only [go_sem, f0, f1, f2]; rfl) (by first | omega | (simp; omega)) (fun _ => rfl)] | rw [mwp_aLoad_e1 (by simp (disch := first | omega | decide) only [go_sem, f0, f1, f2]; rfl) (by simp) rfl] | skip
        exact hK
      apply adraw_step rfl
      · intro K hK
        simp (disch := first | omega | decide) only [go_sem, f0, f1, f2, act_indexAddr_a u34 ti3 (by decide), List.map]
        first | rw [mwp_fieldAddr_b (by simp (disch := first | omega | decide) only [go_sem, f0, f1, f2]; rfl)] | skip
        exact hK
      apply adraw_step rfl
      · intro K hK
        simp (disch := first | omega | decide) only [go_sem, f0, f1, f2, act_load_t ti3, List.map]
        first | rw [mwp_load_bs (by simp (disch := first | omega | decide) only [go_sem, f0, f1, f2]; rfl) (by simp)] | rw [mwp_load_b1 (by simp (disch := first | omega | decide) only [go_sem, f0, f1, f2]; rfl) (by rfl)] | rw [mwp_aLoad_map (by simp (disch := first | omega | decide) only [go_sem, f0, f1, f2]; rfl) (by first | omega | (simp; omega)) (fun _ => rfl)] | rw [mwp_aLoad_e1 (by simp (disch := first | omega | decide) only [go_sem, f0, f1, f2]; rfl) (by simp) rfl] | skip
        exact hK
      iterate 2 (apply adraw_step rfl; · (intro K hK; simp (disch := first | omega | decide) only [go_sem, f0, f1, f2]; exact hK))
      refine adraw_nil (by kernel_rfl) ?_
      refine AW.seq ?_
      refine AW.region (cfg := cfg) ?_
      apply aops_step (by decide) rfl
      · intro K hK
        simp (disch := first | omega | decide) only [go_sem, f0, f1, f2, act_load_t ti33, List.map]
        first | rw [mwp_load_bs (by simp (disch := first | omega | decide) only [go_sem, f0, f1, f2]; rfl) (by simp)] | rw [mwp_load_b1 (by simp (disch := first | omega | decide) only [go_sem, f0, f1, f2]; rfl) (by rfl)] | rw [mwp_aLoad_map (by simp (disch := first | omega | decide) only [go_sem, f0, f1, f2]; rfl) (by first | omega | (simp; omega)) (fun _ => rfl)] | rw [mwp_aLoad_e1 (by simp (disch := first | omega | decide) only [go_sem, f0, f1, f2]; rfl) (by simp) rfl] | skip
        exact hK _
      iterate 1 (apply aops_step (by decide) rfl; · (intro K hK; simp (disch := first | omega | decide) only [go_sem, f0, f1, f2]; exact hK _))
      apply aops_step (by decide) rfl
      · intro K hK
        simp (disch := first | omega | decide) only [go_sem, f0, f1, f2, act_call, List.map]
        apply mwp_call_r rfl rfl rfl
        · intro Q hQ
          simp (disch := first | omega | decide) only [go_sem, f0, f1, f2, peekL]
          first | exact hQ | (rw [peek_own (by simp (disch := first | omega | decide) only [go_sem, f0, f1, f2, peekL]; rfl)]; exact hQ) | (rw [peek_own (by simp (disch := first | omega | decide) only [go_sem, f0, f1, f2, peekL]; rfl)]; simp (disch := first | omega | decide) only [go_sem, f0, f1, f2, peekL]; rw [peek_own (by simp (disch := first | omega | decide) only [go_sem, f0, f1, f2, peekL]; rfl)]; exact hQ) | (rw [peek_own (by simp (disch := first | omega | decide) only [go_sem, f0, f1, f2, peekL]; rfl)]; simp (disch := first | omega | decide) only [go_sem, f0, f1, f2, peekL]; exact hQ)
        · exact good_Slot _ _ _ _
        · simp [-List.map_take, -List.map_drop, noPtrL, noPtr, noPtrL_bsl, noPtrL_map, sub]
        · simp (disch := first | omega | decide) only [go_sem, f0, f1, f2]
          exact hK _
      iterate 5 (apply aops_step (by decide) rfl; · (intro K hK; simp (disch := first | omega | decide) only [go_sem, f0, f1, f2]; exact hK _))
      refine aops_nil ?_
      refine AW.seq ?_
      refine AW.region (cfg := cfg) ?_
      apply aops_step (by decide) rfl
      · intro K hK
        simp (disch := first | omega | decide) only [go_sem, f0, f1, f2, act_load_t ti33, List.map]
        first | rw [mwp_load_bs (by simp (disch := first | omega | decide) only [go_sem, f0, f1, f2]; rfl) (by simp)] | rw [mwp_load_b1 (by simp (disch := first | omega | decide) only [go_sem, f0, f1, f2]; rfl) (by rfl)] | rw [mwp_aLoad_map (by simp (disch := first | omega | decide) only [go_sem, f0, f1, f2]; rfl) (by first | omega | (simp; omega)) (fun _ => rfl)] | rw [mwp_aLoad_e1 (by simp (disch := first | omega | decide) only [go_sem, f0, f1, f2]; rfl) (by simp) rfl] | skip
        exact hK _
      iterate 1 (apply aops_step (by decide) rfl; · (intro K hK; simp (disch := first | omega | decide) only [go_sem, f0, f1, f2]; exact hK _))
      apply aops_step (by decide) rfl
      · intro K hK
        simp (disch := first | omega | decide) only [go_sem, f0, f1, f2, act_call, List.map]
        apply mwp_call_s rfl rfl rfl
        · intro Q hQ
          simp (disch := first | omega | decide) only [go_sem, f0, f1, f2, peekL]
          first | exact hQ | (rw [peek_own (by simp (disch := first | omega | decide) only [go_sem, f0, f1, f2, peekL]; rfl)]; exact hQ) | (rw [peek_own (by simp (disch := first | omega | decide) only [go_sem, f0, f1, f2, peekL]; rfl)]; simp (disch := first | omega | decide) only [go_sem, f0, f1, f2, peekL]; rw [peek_own (by simp (disch := first | omega | decide) only [go_sem, f0, f1, f2, peekL]; rfl)]; exact hQ) | (rw [peek_own (by simp (disch := first | omega | decide) only [go_sem, f0, f1, f2, peekL]; rfl)]; simp (disch := first | omega | decide) only [go_sem, f0, f1, f2, peekL]; exact hQ)
        · exact good_At _ _ _ _
        · simp [-List.map_take, -List.map_drop, noPtrL, noPtr, noPtrL_bsl, noPtrL_map, sub]
        · rfl
        · exact hK _
      iterate 1 (apply aops_step (by decide) rfl; · (intro K hK; simp (disch := first | omega | decide) only [go_sem, f0, f1, f2]; exact hK _))
      refine aops_nil ?_
      refine AW.seq ?_
      refine AW.seq ?_
      refine AW.region (cfg := cfg) ?_
      apply aops_step (by decide) rfl
      · intro K hK
        simp (disch := first | omega | decide) only [go_sem, f0, f1, f2, act_load_t ti33, List.map]
        first | rw [mwp_load_bs (by simp (disch := first | omega | decide) only [go_sem, f0, f1, f2]; rfl) (by simp)] | rw [mwp_load_b1 (by simp (disch := first | omega | decide) only [go_sem, f0, f1, f2]; rfl) (by rfl)] | rw [mwp_aLoad_map (by simp (disch := first | omega | decide) only [go_sem, f0, f1, f2]; rfl) (by first | omega | (simp; omega)) (fun _ => rfl)] | rw [mwp_aLoad_e1 (by simp (disch := first | omega | decide) only [go_sem, f0, f1, f2]; rfl) (by simp) rfl] | skip
        exact hK _
      apply aops_step (by decide) rfl
      · intro K hK
        simp (disch := first | omega | decide) only [go_sem, f0, f1, f2, act_call, List.map]
        apply mwp_call_s rfl rfl rfl
        · intro Q hQ
          simp (disch := first | omega | decide) only [go_sem, f0, f1, f2, peekL]
          first | exact hQ | (rw [peek_own (by simp (disch := first | omega | decide) only [go_sem, f0, f1, f2, peekL]; rfl)]; exact hQ) | (rw [peek_own (by simp (disch := first | omega | decide) only [go_sem, f0, f1, f2, peekL]; rfl)]; simp (disch := first | omega | decide) only [go_sem, f0, f1, f2, peekL]; rw [peek_own (by simp (disch := first | omega | decide) only [go_sem, f0, f1, f2, peekL]; rfl)]; exact hQ) | (rw [peek_own (by simp (disch := first | omega | decide) only [go_sem, f0, f1, f2, peekL]; rfl)]; simp (disch := first | omega | decide) only [go_sem, f0, f1, f2, peekL]; exact hQ)
        · exact good_refMay _ _ _
        · simp [-List.map_take, -List.map_drop, noPtrL, noPtr, noPtrL_bsl, noPtrL_map, sub]
        · rfl
        · exact hK _
      iterate 1 (apply aops_step (by decide) rfl; · (intro K hK; simp (disch := first | omega | decide) only [go_sem, f0, f1, f2]; exact hK _))
      refine aops_nil ?_
      apply AW.cond
      · simp (disch := first | omega | decide) only [go_sem, f0, f1, f2]; rfl
      case ht =>
        intro hb
        try simp only [Bool.or_eq_true, Bool.and_eq_true, Bool.or_eq_false_iff, Bool.and_eq_false_iff, decide_eq_true_eq, decide_eq_false_iff_not] at hb
        refine AW.seq ?_
        refine AW.region (cfg := cfg) ?_
        iterate 3 (apply aops_step (by decide) rfl; · (intro K hK; simp (disch := first | omega | decide) only [go_sem, f0, f1, f2]; exact hK _))
        apply aops_merge' (by decide) (by first | exact want_of (d := 58) rfl (by simp (disch := first | omega | decide) only [go_sem, f0, f1, f2, opn_cond]; rfl) | exact want_of_cond (d := 58) rfl (by simp (disch := first | omega | decide) only [go_sem, f0, f1, f2, opn_cond]; rfl))
        · intro hc K hK
          have hc2 := hc
          simp only [beq_iff_eq, decide_eq_true_eq, decide_eq_false_iff_not, Bool.or_eq_true, Bool.and_eq_true, Bool.or_eq_false_iff, Bool.and_eq_false_iff] at hc2
          simp (disch := first | omega | decide) only [go_sem, f0, f1, f2, opn_cond, hc, if_true]
          exact hK _
        apply aops_merge' (by decide) (by first | exact want_of (d := 58) rfl (by simp (disch := first | omega | decide) only [go_sem, f0, f1, f2, opn_cond]; rfl) | exact want_of_cond (d := 58) rfl (by simp (disch := first | omega | decide) only [go_sem, f0, f1, f2, opn_cond]; rfl))
        · intro hc K hK
          have hc2 := hc
          simp only [beq_iff_eq, decide_eq_true_eq, decide_eq_false_iff_not, Bool.or_eq_true, Bool.and_eq_true, Bool.or_eq_false_iff, Bool.and_eq_false_iff] at hc2
          simp (disch := first | omega | decide) only [go_sem, f0, f1, f2, opn_cond, hc, if_true]
          exact hK _
        iterate 2 (apply aops_step (by decide) rfl; · (intro K hK; simp (disch := first | omega | decide) only [go_sem, f0, f1, f2]; exact hK _))
        apply aops_merge' (by decide) (by first | exact want_of (d := 62) rfl (by simp (disch := first | omega | decide) only [go_sem, f0, f1, f2, opn_cond]; rfl) | exact want_of_cond (d := 62) rfl (by simp (disch := first | omega | decide) only [go_sem, f0, f1, f2, opn_cond]; rfl))
        · intro hc K hK
          have hc2 := hc
          simp only [beq_iff_eq, decide_eq_true_eq, decide_eq_false_iff_not, Bool.or_eq_true, Bool.and_eq_true, Bool.or_eq_false_iff, Bool.and_eq_false_iff] at hc2
          simp (disch := first | omega | decide) only [go_sem, f0, f1, f2, opn_cond, hc, if_true]
          exact hK _
        apply aops_merge' (by decide) (by first | exact want_of (d := 62) rfl (by simp (disch := first | omega | decide) only [go_sem, f0, f1, f2, opn_cond]; rfl) | exact want_of_cond (d := 62) rfl (by simp (disch := first | omega | decide) only [go_sem, f0, f1, f2, opn_cond]; rfl))
        · intro hc K hK
          have hc2 := hc
          simp only [beq_iff_eq, decide_eq_true_eq, decide_eq_false_iff_not, Bool.or_eq_true, Bool.and_eq_true, Bool.or_eq_false_iff, Bool.and_eq_false_iff] at hc2
          simp (disch := first | omega | decide) only [go_sem, f0, f1, f2, opn_cond, hc, if_true]
          exact hK _
        iterate 2 (apply aops_step (by decide) rfl; · (intro K hK; simp (disch := first | omega | decide) only [go_sem, f0, f1, f2]; exact hK _))
        apply aops_merge' (by decide) (by first | exact want_of (d := 66) rfl (by simp (disch := first | omega | decide) only [go_sem, f0, f1, f2, opn_cond]; rfl) | exact want_of_cond (d := 66) rfl (by simp (disch := first | omega | decide) only [go_sem, f0, f1, f2, opn_cond]; rfl))
        · intro hc K hK
          have hc2 := hc
          simp only [beq_iff_eq, decide_eq_true_eq, decide_eq_false_iff_not, Bool.or_eq_true, Bool.and_eq_true, Bool.or_eq_false_iff, Bool.and_eq_false_iff] at hc2
          simp (disch := first | omega | decide) only [go_sem, f0, f1, f2, opn_cond, hc, if_true, act_call, List.map]
          apply mwp_call_s rfl rfl rfl
          · intro Q hQ
            simp (disch := first | omega | decide) only [go_sem, f0, f1, f2, opn_cond, hc, if_true, peekL]
            first | exact hQ | (rw [peek_own (by simp (disch := first | omega | decide) only [go_sem, f0, f1, f2, peekL]; rfl)]; exact hQ) | (rw [peek_own (by simp (disch := first | omega | decide) only [go_sem, f0, f1, f2, peekL]; rfl)]; simp (disch := first | omega | decide) only [go_sem, f0, f1, f2, peekL]; rw [peek_own (by simp (disch := first | omega | decide) only [go_sem, f0, f1, f2, peekL]; rfl)]; exact hQ) | (rw [peek_own (by simp (disch := first | omega | decide) only [go_sem, f0, f1, f2, peekL]; rfl)]; simp (disch := first | omega | decide) only [go_sem, f0, f1, f2, peekL]; exact hQ)
          · exact good_awake
          · simp [-List.map_take, -List.map_drop, noPtrL, noPtr, noPtrL_bsl, noPtrL_map, sub]
          · rfl
          · exact hK _
        iterate 2 (apply aops_step (by decide) rfl; · (intro K hK; simp (disch := first | omega | decide) only [go_sem, f0, f1, f2]; exact hK _))
        refine aops_nil ?_
        refine AW.ret ?_
        refine ⟨.inr rfl, ?_⟩
        refine leaves_tmp1 6 rfl ?_ (by first | rfl | exact hG)
        simp (disch := first | omega | decide) only [go_sem, f0, f1, f2]
        clear hr hv hG f0 f1 f2
        have hM := refMay_may a b c
        have q0 := e_no (n := n)
        have q1 := e_ok (n := n)
        have q2 := fun h => slot_no (a := a) (b := b) (c := c) h gen i
        have q3 := slot_neg (a := a) (b := b) (c := c) (gen := gen)
        have q4 := slot_is (a := a) (b := b) (c := c) (gen := gen)
        have q5 := at_no (a := a) (b := b) (c := c) (i := i)
        have q6 := at_is (a := a) (b := b) (c := c) (i := i)
        cases hmp : mayP a b c <;> first | grind | (simp_all; done) | trace_state
      case hf =>
        intro hb
        try simp only [Bool.or_eq_true, Bool.and_eq_true, Bool.or_eq_false_iff, Bool.and_eq_false_iff, decide_eq_true_eq, decide_eq_false_iff_not] at hb
        refine AW.skip ?_
        refine AW.seq ?_
        refine AW.seq ?_
        refine AW.region (cfg := cfg) ?_
        iterate 3 (apply aops_step (by decide) rfl; · (intro K hK; simp (disch := first | omega | decide) only [go_sem, f0, f1, f2]; exact hK _))
        apply aops_merge' (by decide) (by first | exact want_of (d := 71) rfl (by simp (disch := first | omega | decide) only [go_sem, f0, f1, f2, opn_cond]; rfl) | exact want_of_cond (d := 71) rfl (by simp (disch := first | omega | decide) only [go_sem, f0, f1, f2, opn_cond]; rfl))
        · intro hc K hK
          have hc2 := hc
          simp only [beq_iff_eq, decide_eq_true_eq, decide_eq_false_iff_not, Bool.or_eq_true, Bool.and_eq_true, Bool.or_eq_false_iff, Bool.and_eq_false_iff] at hc2
          simp (disch := first | omega | decide) only [go_sem, f0, f1, f2, opn_cond, hc, if_true]
          exact hK _
        apply aops_merge' (by decide) (by first | exact want_of (d := 71) rfl (by simp (disch := first | omega | decide) only [go_sem, f0, f1, f2, opn_cond]; rfl) | exact want_of_cond (d := 71) rfl (by simp (disch := first | omega | decide) only [go_sem, f0, f1, f2, opn_cond]; rfl))
        · intro hc K hK
          have hc2 := hc
          simp only [beq_iff_eq, decide_eq_true_eq, decide_eq_false_iff_not, Bool.or_eq_true, Bool.and_eq_true, Bool.or_eq_false_iff, Bool.and_eq_false_iff] at hc2
          simp (disch := first | omega | decide) only [go_sem, f0, f1, f2, opn_cond, hc, if_true]
          exact hK _
        apply aops_merge' (by decide) (by first | exact want_of (d := 71) rfl (by simp (disch := first | omega | decide) only [go_sem, f0, f1, f2, opn_cond]; rfl) | exact want_of_cond (d := 71) rfl (by simp (disch := first | omega | decide) only [go_sem, f0, f1, f2, opn_cond]; rfl))
        · intro hc K hK
          have hc2 := hc
          simp only [beq_iff_eq, decide_eq_true_eq, decide_eq_false_iff_not, Bool.or_eq_true, Bool.and_eq_true, Bool.or_eq_false_iff, Bool.and_eq_false_iff] at hc2
          simp (disch := first | omega | decide) only [go_sem, f0, f1, f2, opn_cond, hc, if_true]
          exact hK _
        apply aops_merge' (by decide) (by first | exact want_of (d := 74) rfl (by simp (disch := first | omega | decide) only [go_sem, f0, f1, f2, opn_cond]; rfl) | exact want_of_cond (d := 74) rfl (by simp (disch := first | omega | decide) only [go_sem, f0, f1, f2, opn_cond]; rfl))
        · intro hc K hK
          have hc2 := hc
          simp only [beq_iff_eq, decide_eq_true_eq, decide_eq_false_iff_not, Bool.or_eq_true, Bool.and_eq_true, Bool.or_eq_false_iff, Bool.and_eq_false_iff] at hc2
          simp (disch := first | omega | decide) only [go_sem, f0, f1, f2, opn_cond, hc, if_true]
          exact hK _
        apply aops_merge' (by decide) (by first | exact want_of (d := 74) rfl (by simp (disch := first | omega | decide) only [go_sem, f0, f1, f2, opn_cond]; rfl) | exact want_of_cond (d := 74) rfl (by simp (disch := first | omega | decide) only [go_sem, f0, f1, f2, opn_cond]; rfl))
        · intro hc K hK
          have hc2 := hc
          simp only [beq_iff_eq, decide_eq_true_eq, decide_eq_false_iff_not, Bool.or_eq_true, Bool.and_eq_true, Bool.or_eq_false_iff, Bool.and_eq_false_iff] at hc2
          simp (disch := first | omega | decide) only [go_sem, f0, f1, f2, opn_cond, hc, if_true]
          exact hK _
        apply aops_merge' (by decide) (by first | exact want_of (d := 71) rfl (by simp (disch := first | omega | decide) only [go_sem, f0, f1, f2, opn_cond]; rfl) | exact want_of_cond (d := 71) rfl (by simp (disch := first | omega | decide) only [go_sem, f0, f1, f2, opn_cond]; rfl))
        · intro hc K hK
          have hc2 := hc
          simp only [beq_iff_eq, decide_eq_true_eq, decide_eq_false_iff_not, Bool.or_eq_true, Bool.and_eq_true, Bool.or_eq_false_iff, Bool.and_eq_false_iff] at hc2
          simp (disch := first | omega | decide) only [go_sem, f0, f1, f2, opn_cond, hc, if_true]
          exact hK _
        iterate 2 (apply aops_step (by decide) rfl; · (intro K hK; simp (disch := first | omega | decide) only [go_sem, f0, f1, f2]; exact hK _))
        apply aops_merge' (by decide) (by first | exact want_of (d := 79) rfl (by simp (disch := first | omega | decide) only [go_sem, f0, f1, f2, opn_cond]; rfl) | exact want_of_cond (d := 79) rfl (by simp (disch := first | omega | decide) only [go_sem, f0, f1, f2, opn_cond]; rfl))
        · intro hc K hK
          have hc2 := hc
          simp only [beq_iff_eq, decide_eq_true_eq, decide_eq_false_iff_not, Bool.or_eq_true, Bool.and_eq_true, Bool.or_eq_false_iff, Bool.and_eq_false_iff] at hc2
          simp (disch := first | omega | decide) only [go_sem, f0, f1, f2, opn_cond, hc, if_true]
          exact hK _
        apply aops_merge' (by decide) (by first | exact want_of (d := 79) rfl (by simp (disch := first | omega | decide) only [go_sem, f0, f1, f2, opn_cond]; rfl) | exact want_of_cond (d := 79) rfl (by simp (disch := first | omega | decide) only [go_sem, f0, f1, f2, opn_cond]; rfl))
        · intro hc K hK
          have hc2 := hc
          simp only [beq_iff_eq, decide_eq_true_eq, decide_eq_false_iff_not, Bool.or_eq_true, Bool.and_eq_true, Bool.or_eq_false_iff, Bool.and_eq_false_iff] at hc2
          simp (disch := first | omega | decide) only [go_sem, f0, f1, f2, opn_cond, hc, if_true]
          exact hK _
        apply aops_merge' (by decide) (by first | exact want_of (d := 79) rfl (by simp (disch := first | omega | decide) only [go_sem, f0, f1, f2, opn_cond]; rfl) | exact want_of_cond (d := 79) rfl (by simp (disch := first | omega | decide) only [go_sem, f0, f1, f2, opn_cond]; rfl))
        · intro hc K hK
          have hc2 := hc
          simp only [beq_iff_eq, decide_eq_true_eq, decide_eq_false_iff_not, Bool.or_eq_true, Bool.and_eq_true, Bool.or_eq_false_iff, Bool.and_eq_false_iff] at hc2
          simp (disch := first | omega | decide) only [go_sem, f0, f1, f2, opn_cond, hc, if_true]
          exact hK _
        apply aops_merge' (by decide) (by first | exact want_of (d := 82) rfl (by simp (disch := first | omega | decide) only [go_sem, f0, f1, f2, opn_cond]; rfl) | exact want_of_cond (d := 82) rfl (by simp (disch := first | omega | decide) only [go_sem, f0, f1, f2, opn_cond]; rfl))
        · intro hc K hK
          have hc2 := hc
          simp only [beq_iff_eq, decide_eq_true_eq, decide_eq_false_iff_not, Bool.or_eq_true, Bool.and_eq_true, Bool.or_eq_false_iff, Bool.and_eq_false_iff] at hc2
          simp (disch := first | omega | decide) only [go_sem, f0, f1, f2, opn_cond, hc, if_true]
          exact hK _
        apply aops_merge' (by decide) (by first | exact want_of (d := 82) rfl (by simp (disch := first | omega | decide) only [go_sem, f0, f1, f2, opn_cond]; rfl) | exact want_of_cond (d := 82) rfl (by simp (disch := first | omega | decide) only [go_sem, f0, f1, f2, opn_cond]; rfl))
        · intro hc K hK
          have hc2 := hc
          simp only [beq_iff_eq, decide_eq_true_eq, decide_eq_false_iff_not, Bool.or_eq_true, Bool.and_eq_true, Bool.or_eq_false_iff, Bool.and_eq_false_iff] at hc2
          simp (disch := first | omega | decide) only [go_sem, f0, f1, f2, opn_cond, hc, if_true]
          exact hK _
        apply aops_merge' (by decide) (by first | exact want_of (d := 82) rfl (by simp (disch := first | omega | decide) only [go_sem, f0, f1, f2, opn_cond]; rfl) | exact want_of_cond (d := 82) rfl (by simp (disch := first | omega | decide) only [go_sem, f0, f1, f2, opn_cond]; rfl))
        · intro hc K hK
          have hc2 := hc
          simp only [beq_iff_eq, decide_eq_true_eq, decide_eq_false_iff_not, Bool.or_eq_true, Bool.and_eq_true, Bool.or_eq_false_iff, Bool.and_eq_false_iff] at hc2
          simp (disch := first | omega | decide) only [go_sem, f0, f1, f2, opn_cond, hc, if_true]
          exact hK _
        apply aops_merge' (by decide) (by first | exact want_of (d := 82) rfl (by simp (disch := first | omega | decide) only [go_sem, f0, f1, f2, opn_cond]; rfl) | exact want_of_cond (d := 82) rfl (by simp (disch := first | omega | decide) only [go_sem, f0, f1, f2, opn_cond]; rfl))
        · intro hc K hK
          have hc2 := hc
          simp only [beq_iff_eq, decide_eq_true_eq, decide_eq_false_iff_not, Bool.or_eq_true, Bool.and_eq_true, Bool.or_eq_false_iff, Bool.and_eq_false_iff] at hc2
          simp (disch := first | omega | decide) only [go_sem, f0, f1, f2, opn_cond, hc, if_true, act_fieldAddr_t fo33_0]
          first | rw [mwp_fieldAddr_b (by simp (disch := first | omega | decide) only [go_sem, f0, f1, f2, opn_cond, hc, if_true]; rfl)] | skip
          exact hK _
        apply aops_merge' (by decide) (by first | exact want_of (d := 82) rfl (by simp (disch := first | omega | decide) only [go_sem, f0, f1, f2, opn_cond]; rfl) | exact want_of_cond (d := 82) rfl (by simp (disch := first | omega | decide) only [go_sem, f0, f1, f2, opn_cond]; rfl))
        · intro hc K hK
          have hc2 := hc
          simp only [beq_iff_eq, decide_eq_true_eq, decide_eq_false_iff_not, Bool.or_eq_true, Bool.and_eq_true, Bool.or_eq_false_iff, Bool.and_eq_false_iff] at hc2
          simp (disch := first | omega | decide) only [go_sem, f0, f1, f2, opn_cond, hc, if_true, act_load_t ti3]
          first | rw [mwp_load_bs (by simp (disch := first | omega | decide) only [go_sem, f0, f1, f2, opn_cond, hc, if_true]; rfl) (by simp)] | rw [mwp_load_b1 (by simp (disch := first | omega | decide) only [go_sem, f0, f1, f2, opn_cond, hc, if_true]; rfl) (by rfl)] | rw [mwp_aLoad_map (by simp (disch := first | omega | decide) only [go_sem, f0, f1, f2, opn_cond, hc, if_true]; rfl) (by first | omega | (simp; omega)) (fun _ => rfl)] | rw [mwp_aLoad_e1 (by simp (disch := first | omega | decide) only [go_sem, f0, f1, f2, opn_cond, hc, if_true]; rfl) (by simp) rfl] | skip
          exact hK _
        apply aops_merge' (by decide) (by first | exact want_of (d := 82) rfl (by simp (disch := first | omega | decide) only [go_sem, f0, f1, f2, opn_cond]; rfl) | exact want_of_cond (d := 82) rfl (by simp (disch := first | omega | decide) only [go_sem, f0, f1, f2, opn_cond]; rfl))
        · intro hc K hK
          have hc2 := hc
          simp only [beq_iff_eq, decide_eq_true_eq, decide_eq_false_iff_not, Bool.or_eq_true, Bool.and_eq_true, Bool.or_eq_false_iff, Bool.and_eq_false_iff] at hc2
          simp (disch := first | omega | decide) only [go_sem, f0, f1, f2, opn_cond, hc, if_true]
          exact hK _
        apply aops_merge' (by decide) (by first | exact want_of (d := 82) rfl (by simp (disch := first | omega | decide) only [go_sem, f0, f1, f2, opn_cond]; rfl) | exact want_of_cond (d := 82) rfl (by simp (disch := first | omega | decide) only [go_sem, f0, f1, f2, opn_cond]; rfl))
        · intro hc K hK
          have hc2 := hc
          simp only [beq_iff_eq, decide_eq_true_eq, decide_eq_false_iff_not, Bool.or_eq_true, Bool.and_eq_true, Bool.or_eq_false_iff, Bool.and_eq_false_iff] at hc2
          simp (disch := first | omega | decide) only [go_sem, f0, f1, f2, opn_cond, hc, if_true]
          exact hK _
        apply aops_merge' (by decide) (by first | exact want_of (d := 82) rfl (by simp (disch := first | omega | decide) only [go_sem, f0, f1, f2, opn_cond]; rfl) | exact want_of_cond (d := 82) rfl (by simp (disch := first | omega | decide) only [go_sem, f0, f1, f2, opn_cond]; rfl))
        · intro hc K hK
          have hc2 := hc
          simp only [beq_iff_eq, decide_eq_true_eq, decide_eq_false_iff_not, Bool.or_eq_true, Bool.and_eq_true, Bool.or_eq_false_iff, Bool.and_eq_false_iff] at hc2
          simp (disch := first | omega | decide) only [go_sem, f0, f1, f2, opn_cond, hc, if_true]
          exact hK _
        apply aops_merge' (by decide) (by first | exact want_of (d := 90) rfl (by simp (disch := first | omega | decide) only [go_sem, f0, f1, f2, opn_cond]; rfl) | exact want_of_cond (d := 90) rfl (by simp (disch := first | omega | decide) only [go_sem, f0, f1, f2, opn_cond]; rfl))
        · intro hc K hK
          have hc2 := hc
          simp only [beq_iff_eq, decide_eq_true_eq, decide_eq_false_iff_not, Bool.or_eq_true, Bool.and_eq_true, Bool.or_eq_false_iff, Bool.and_eq_false_iff] at hc2
          simp (disch := first | omega | decide) only [go_sem, f0, f1, f2, opn_cond, hc, if_true]
          exact hK _
        apply aops_merge' (by decide) (by first | exact want_of (d := 90) rfl (by simp (disch := first | omega | decide) only [go_sem, f0, f1, f2, opn_cond]; rfl) | exact want_of_cond (d := 90) rfl (by simp (disch := first | omega | decide) only [go_sem, f0, f1, f2, opn_cond]; rfl))
        · intro hc K hK
          have hc2 := hc
          simp only [beq_iff_eq, decide_eq_true_eq, decide_eq_false_iff_not, Bool.or_eq_true, Bool.and_eq_true, Bool.or_eq_false_iff, Bool.and_eq_false_iff] at hc2
          simp (disch := first | omega | decide) only [go_sem, f0, f1, f2, opn_cond, hc, if_true]
          exact hK _
        apply aops_merge' (by decide) (by first | exact want_of (d := 90) rfl (by simp (disch := first | omega | decide) only [go_sem, f0, f1, f2, opn_cond]; rfl) | exact want_of_cond (d := 90) rfl (by simp (disch := first | omega | decide) only [go_sem, f0, f1, f2, opn_cond]; rfl))
        · intro hc K hK
          have hc2 := hc
          simp only [beq_iff_eq, decide_eq_true_eq, decide_eq_false_iff_not, Bool.or_eq_true, Bool.and_eq_true, Bool.or_eq_false_iff, Bool.and_eq_false_iff] at hc2
          simp (disch := first | omega | decide) only [go_sem, f0, f1, f2, opn_cond, hc, if_true, act_fieldAddr_t fo33_0]
          first | rw [mwp_fieldAddr_b (by simp (disch := first | omega | decide) only [go_sem, f0, f1, f2, opn_cond, hc, if_true]; rfl)] | skip
          exact hK _
        apply aops_merge' (by decide) (by first | exact want_of (d := 90) rfl (by simp (disch := first | omega | decide) only [go_sem, f0, f1, f2, opn_cond]; rfl) | exact want_of_cond (d := 90) rfl (by simp (disch := first | omega | decide) only [go_sem, f0, f1, f2, opn_cond]; rfl))
        · intro hc K hK
          have hc2 := hc
          simp only [beq_iff_eq, decide_eq_true_eq, decide_eq_false_iff_not, Bool.or_eq_true, Bool.and_eq_true, Bool.or_eq_false_iff, Bool.and_eq_false_iff] at hc2
          simp (disch := first | omega | decide) only [go_sem, f0, f1, f2, opn_cond, hc, if_true, act_load_t ti3]
          first | rw [mwp_load_bs (by simp (disch := first | omega | decide) only [go_sem, f0, f1, f2, opn_cond, hc, if_true]; rfl) (by simp)] | rw [mwp_load_b1 (by simp (disch := first | omega | decide) only [go_sem, f0, f1, f2, opn_cond, hc, if_true]; rfl) (by rfl)] | rw [mwp_aLoad_map (by simp (disch := first | omega | decide) only [go_sem, f0, f1, f2, opn_cond, hc, if_true]; rfl) (by first | omega | (simp; omega)) (fun _ => rfl)] | rw [mwp_aLoad_e1 (by simp (disch := first | omega | decide) only [go_sem, f0, f1, f2, opn_cond, hc, if_true]; rfl) (by simp) rfl] | skip
          exact hK _
        apply aops_merge' (by decide) (by first | exact want_of (d := 90) rfl (by simp (disch := first | omega | decide) only [go_sem, f0, f1, f2, opn_cond]; rfl) | exact want_of_cond (d := 90) rfl (by simp (disch := first | omega | decide) only [go_sem, f0, f1, f2, opn_cond]; rfl))
        · intro hc K hK
          have hc2 := hc
          simp only [beq_iff_eq, decide_eq_true_eq, decide_eq_false_iff_not, Bool.or_eq_true, Bool.and_eq_true, Bool.or_eq_false_iff, Bool.and_eq_false_iff] at hc2
          simp (disch := first | omega | decide) only [go_sem, f0, f1, f2, opn_cond, hc, if_true]
          exact hK _
        apply aops_merge' (by decide) (by first | exact want_of (d := 90) rfl (by simp (disch := first | omega | decide) only [go_sem, f0, f1, f2, opn_cond]; rfl) | exact want_of_cond (d := 90) rfl (by simp (disch := first | omega | decide) only [go_sem, f0, f1, f2, opn_cond]; rfl))
        · intro hc K hK
          have hc2 := hc
          simp only [beq_iff_eq, decide_eq_true_eq, decide_eq_false_iff_not, Bool.or_eq_true, Bool.and_eq_true, Bool.or_eq_false_iff, Bool.and_eq_false_iff] at hc2
          simp (disch := first | omega | decide) only [go_sem, f0, f1, f2, opn_cond, hc, if_true]
          exact hK _
        apply aops_merge' (by decide) (by first | exact want_of (d := 82) rfl (by simp (disch := first | omega | decide) only [go_sem, f0, f1, f2, opn_cond]; rfl) | exact want_of_cond (d := 82) rfl (by simp (disch := first | omega | decide) only [go_sem, f0, f1, f2, opn_cond]; rfl))
        · intro hc K hK
          have hc2 := hc
          simp only [beq_iff_eq, decide_eq_true_eq, decide_eq_false_iff_not, Bool.or_eq_true, Bool.and_eq_true, Bool.or_eq_false_iff, Bool.and_eq_false_iff] at hc2
          simp (disch := first | omega | decide) only [go_sem, f0, f1, f2, opn_cond, hc, if_true]
          exact hK _
        apply aops_merge' (by decide) (by first | exact want_of (d := 79) rfl (by simp (disch := first | omega | decide) only [go_sem, f0, f1, f2, opn_cond]; rfl) | exact want_of_cond (d := 79) rfl (by simp (disch := first | omega | decide) only [go_sem, f0, f1, f2, opn_cond]; rfl))
        · intro hc K hK
          have hc2 := hc
          simp only [beq_iff_eq, decide_eq_true_eq, decide_eq_false_iff_not, Bool.or_eq_true, Bool.and_eq_true, Bool.or_eq_false_iff, Bool.and_eq_false_iff] at hc2
          simp (disch := first | omega | decide) only [go_sem, f0, f1, f2, opn_cond, hc, if_true]
          exact hK _
        iterate 1 (apply aops_step (by decide) rfl; · (intro K hK; simp (disch := first | omega | decide) only [go_sem, f0, f1, f2]; exact hK _))
        refine aops_nil ?_
        apply AW.cond
        · simp (disch := first | omega | decide) only [go_sem, f0, f1, f2]; rfl
        case ht =>
          intro hb
          try simp only [Bool.or_eq_true, Bool.and_eq_true, Bool.or_eq_false_iff, Bool.and_eq_false_iff, decide_eq_true_eq, decide_eq_false_iff_not] at hb
          refine AW.seq ?_
          refine AW.region (cfg := cfg) ?_
          iterate 1 (apply aops_step (by decide) rfl; · (intro K hK; simp (disch := first | omega | decide) only [go_sem, f0, f1, f2]; exact hK _))
          refine aops_nil ?_
          refine AW.ret ?_
          refine ⟨.inr rfl, ?_⟩
          refine leaves_tmp1 6 rfl ?_ (by first | rfl | exact hG)
          simp (disch := first | omega | decide) only [go_sem, f0, f1, f2]
          clear hr hv hG f0 f1 f2
          have hM := refMay_may a b c
          have q0 := e_no (n := n)
          have q1 := e_ok (n := n)
          have q2 := fun h => slot_no (a := a) (b := b) (c := c) h gen i
          have q3 := slot_neg (a := a) (b := b) (c := c) (gen := gen)
          have q4 := slot_is (a := a) (b := b) (c := c) (gen := gen)
          have q5 := at_no (a := a) (b := b) (c := c) (i := i)
          have q6 := at_is (a := a) (b := b) (c := c) (i := i)
          cases hmp : mayP a b c <;> first | grind | (simp_all; done) | trace_state
        case hf =>
          intro hb
          try simp only [Bool.or_eq_true, Bool.and_eq_true, Bool.or_eq_false_iff, Bool.and_eq_false_iff, decide_eq_true_eq, decide_eq_false_iff_not] at hb
          refine AW.skip ?_
          refine AW.seq ?_
          refine AW.seq ?_
          refine AW.region (cfg := cfg) ?_
          iterate 3 (apply aops_step (by decide) rfl; · (intro K hK; simp (disch := first | omega | decide) only [go_sem, f0, f1, f2]; exact hK _))
          apply aops_merge' (by decide) (by first | exact want_of (d := 102) rfl (by simp (disch := first | omega | decide) only [go_sem, f0, f1, f2, opn_cond]; rfl) | exact want_of_cond (d := 102) rfl (by simp (disch := first | omega | decide) only [go_sem, f0, f1, f2, opn_cond]; rfl))
          · intro hc K hK
            have hc2 := hc
            simp only [beq_iff_eq, decide_eq_true_eq, decide_eq_false_iff_not, Bool.or_eq_true, Bool.and_eq_true, Bool.or_eq_false_iff, Bool.and_eq_false_iff] at hc2
            simp (disch := first | omega | decide) only [go_sem, f0, f1, f2, opn_cond, hc, if_true]
            exact hK _
          apply aops_merge' (by decide) (by first | exact want_of (d := 102) rfl (by simp (disch := first | omega | decide) only [go_sem, f0, f1, f2, opn_cond]; rfl) | exact want_of_cond (d := 102) rfl (by simp (disch := first | omega | decide) only [go_sem, f0, f1, f2, opn_cond]; rfl))
          · intro hc K hK
            have hc2 := hc
            simp only [beq_iff_eq, decide_eq_true_eq, decide_eq_false_iff_not, Bool.or_eq_true, Bool.and_eq_true, Bool.or_eq_false_iff, Bool.and_eq_false_iff] at hc2
            simp (disch := first | omega | decide) only [go_sem, f0, f1, f2, opn_cond, hc, if_true, act_fieldAddr_t fo33_2]
            first | rw [mwp_fieldAddr_b (by simp (disch := first | omega | decide) only [go_sem, f0, f1, f2, opn_cond, hc, if_true]; rfl)] | skip
            exact hK _
          apply aops_merge' (by decide) (by first | exact want_of (d := 102) rfl (by simp (disch := first | omega | decide) only [go_sem, f0, f1, f2, opn_cond]; rfl) | exact want_of_cond (d := 102) rfl (by simp (disch := first | omega | decide) only [go_sem, f0, f1, f2, opn_cond]; rfl))
          · intro hc K hK
            have hc2 := hc
            simp only [beq_iff_eq, decide_eq_true_eq, decide_eq_false_iff_not, Bool.or_eq_true, Bool.and_eq_true, Bool.or_eq_false_iff, Bool.and_eq_false_iff] at hc2
            simp (disch := first | omega | decide) only [go_sem, f0, f1, f2, opn_cond, hc, if_true, act_load_t ti3]
            first | rw [mwp_load_bs (by simp (disch := first | omega | decide) only [go_sem, f0, f1, f2, opn_cond, hc, if_true]; rfl) (by simp)] | rw [mwp_load_b1 (by simp (disch := first | omega | decide) only [go_sem, f0, f1, f2, opn_cond, hc, if_true]; rfl) (by rfl)] | rw [mwp_aLoad_map (by simp (disch := first | omega | decide) only [go_sem, f0, f1, f2, opn_cond, hc, if_true]; rfl) (by first | omega | (simp; omega)) (fun _ => rfl)] | rw [mwp_aLoad_e1 (by simp (disch := first | omega | decide) only [go_sem, f0, f1, f2, opn_cond, hc, if_true]; rfl) (by simp) rfl] | skip
            exact hK _
          apply aops_merge' (by decide) (by first | exact want_of (d := 102) rfl (by simp (disch := first | omega | decide) only [go_sem, f0, f1, f2, opn_cond]; rfl) | exact want_of_cond (d := 102) rfl (by simp (disch := first | omega | decide) only [go_sem, f0, f1, f2, opn_cond]; rfl))
          · intro hc K hK
            have hc2 := hc
            simp only [beq_iff_eq, decide_eq_true_eq, decide_eq_false_iff_not, Bool.or_eq_true, Bool.and_eq_true, Bool.or_eq_false_iff, Bool.and_eq_false_iff] at hc2
            simp (disch := first | omega | decide) only [go_sem, f0, f1, f2, opn_cond, hc, if_true]
            exact hK _
          iterate 1 (apply aops_step (by decide) rfl; · (intro K hK; simp (disch := first | omega | decide) only [go_sem, f0, f1, f2]; exact hK _))
          refine aops_nil ?_
          apply AW.cond
          · simp (disch := first | omega | decide) only [go_sem, f0, f1, f2]; rfl
          case ht =>
            intro hb
            try simp only [Bool.or_eq_true, Bool.and_eq_true, Bool.or_eq_false_iff, Bool.and_eq_false_iff, decide_eq_true_eq, decide_eq_false_iff_not] at hb
            refine AW.seq ?_
            refine AW.region (cfg := cfg) ?_
            iterate 3 (apply aops_step (by decide) rfl; · (intro K hK; simp (disch := first | omega | decide) only [go_sem, f0, f1, f2]; exact hK _))
            apply aops_merge' (by decide) (by first | exact want_of (d := 110) rfl (by simp (disch := first | omega | decide) only [go_sem, f0, f1, f2, opn_cond]; rfl) | exact want_of_cond (d := 110) rfl (by simp (disch := first | omega | decide) only [go_sem, f0, f1, f2, opn_cond]; rfl))
            · intro hc K hK
              have hc2 := hc
              simp only [beq_iff_eq, decide_eq_true_eq, decide_eq_false_iff_not, Bool.or_eq_true, Bool.and_eq_true, Bool.or_eq_false_iff, Bool.and_eq_false_iff] at hc2
              simp (disch := first | omega | decide) only [go_sem, f0, f1, f2, opn_cond, hc, if_true, act_call, List.map]
              apply mwp_call_s rfl rfl rfl
              · intro Q hQ
                simp (disch := first | omega | decide) only [go_sem, f0, f1, f2, opn_cond, hc, if_true, peekL]
                first | exact hQ | (rw [peek_own (by simp (disch := first | omega | decide) only [go_sem, f0, f1, f2, peekL]; rfl)]; exact hQ) | (rw [peek_own (by simp (disch := first | omega | decide) only [go_sem, f0, f1, f2, peekL]; rfl)]; simp (disch := first | omega | decide) only [go_sem, f0, f1, f2, peekL]; rw [peek_own (by simp (disch := first | omega | decide) only [go_sem, f0, f1, f2, peekL]; rfl)]; exact hQ) | (rw [peek_own (by simp (disch := first | omega | decide) only [go_sem, f0, f1, f2, peekL]; rfl)]; simp (disch := first | omega | decide) only [go_sem, f0, f1, f2, peekL]; exact hQ)
              · exact good_awake
              · simp [-List.map_take, -List.map_drop, noPtrL, noPtr, noPtrL_bsl, noPtrL_map, sub]
              · rfl
              · exact hK _
            iterate 2 (apply aops_step (by decide) rfl; · (intro K hK; simp (disch := first | omega | decide) only [go_sem, f0, f1, f2]; exact hK _))
            refine aops_nil ?_
            refine AW.ret ?_
            refine ⟨.inr rfl, ?_⟩
            refine leaves_tmp1 6 rfl ?_ (by first | rfl | exact hG)
            simp (disch := first | omega | decide) only [go_sem, f0, f1, f2]
            clear hr hv hG f0 f1 f2
            have hM := refMay_may a b c
            have q0 := e_no (n := n)
            have q1 := e_ok (n := n)
            have q2 := fun h => slot_no (a := a) (b := b) (c := c) h gen i
            have q3 := slot_neg (a := a) (b := b) (c := c) (gen := gen)
            have q4 := slot_is (a := a) (b := b) (c := c) (gen := gen)
            have q5 := at_no (a := a) (b := b) (c := c) (i := i)
            have q6 := at_is (a := a) (b := b) (c := c) (i := i)
            cases hmp : mayP a b c <;> first | grind | (simp_all; done) | trace_state
          case hf =>
            intro hb
            try simp only [Bool.or_eq_true, Bool.and_eq_true, Bool.or_eq_false_iff, Bool.and_eq_false_iff, decide_eq_true_eq, decide_eq_false_iff_not] at hb
            refine AW.skip ?_
            refine AW.seq ?_
            refine AW.region (cfg := cfg) ?_
            iterate 1 (apply aops_step (by decide) rfl; · (intro K hK; simp (disch := first | omega | decide) only [go_sem, f0, f1, f2]; exact hK _))
            apply aops_step (by decide) rfl
            · intro K hK
              simp (disch := first | omega | decide) only [go_sem, f0, f1, f2, act_fieldAddr_t fo33_1, List.map]
              first | rw [mwp_fieldAddr_b (by simp (disch := first | omega | decide) only [go_sem, f0, f1, f2]; rfl)] | skip
              exact hK _
            apply aops_step (by decide) rfl
            · intro K hK
              simp (disch := first | omega | decide) only [go_sem, f0, f1, f2, act_load_t ti3, List.map]
              first | rw [mwp_load_bs (by simp (disch := first | omega | decide) only [go_sem, f0, f1, f2]; rfl) (by simp)] | rw [mwp_load_b1 (by simp (disch := first | omega | decide) only [go_sem, f0, f1, f2]; rfl) (by rfl)] | rw [mwp_aLoad_map (by simp (disch := first | omega | decide) only [go_sem, f0, f1, f2]; rfl) (by first | omega | (simp; omega)) (fun _ => rfl)] | rw [mwp_aLoad_e1 (by simp (disch := first | omega | decide) only [go_sem, f0, f1, f2]; rfl) (by simp) rfl] | skip
              exact hK _
            iterate 4 (apply aops_step (by decide) rfl; · (intro K hK; simp (disch := first | omega | decide) only [go_sem, f0, f1, f2]; exact hK _))
            apply aops_merge' (by decide) (by first | exact want_of (d := 119) rfl (by simp (disch := first | omega | decide) only [go_sem, f0, f1, f2, opn_cond]; rfl) | exact want_of_cond (d := 119) rfl (by simp (disch := first | omega | decide) only [go_sem, f0, f1, f2, opn_cond]; rfl))
            · intro hc K hK
              have hc2 := hc
              simp only [beq_iff_eq, decide_eq_true_eq, decide_eq_false_iff_not, Bool.or_eq_true, Bool.and_eq_true, Bool.or_eq_false_iff, Bool.and_eq_false_iff] at hc2
              simp (disch := first | omega | decide) only [go_sem, f0, f1, f2, opn_cond, hc, if_true, act_call, List.map]
              apply mwp_call_s rfl rfl rfl
              · intro Q hQ
                simp (disch := first | omega | decide) only [go_sem, f0, f1, f2, opn_cond, hc, if_true, peekL]
                first | exact hQ | (rw [peek_own (by simp (disch := first | omega | decide) only [go_sem, f0, f1, f2, peekL]; rfl)]; exact hQ) | (rw [peek_own (by simp (disch := first | omega | decide) only [go_sem, f0, f1, f2, peekL]; rfl)]; simp (disch := first | omega | decide) only [go_sem, f0, f1, f2, peekL]; rw [peek_own (by simp (disch := first | omega | decide) only [go_sem, f0, f1, f2, peekL]; rfl)]; exact hQ) | (rw [peek_own (by simp (disch := first | omega | decide) only [go_sem, f0, f1, f2, peekL]; rfl)]; simp (disch := first | omega | decide) only [go_sem, f0, f1, f2, peekL]; exact hQ)
              · exact good_awake
              · simp [-List.map_take, -List.map_drop, noPtrL, noPtr, noPtrL_bsl, noPtrL_map, sub]
              · rfl
              · exact hK _
            iterate 2 (apply aops_step (by decide) rfl; · (intro K hK; simp (disch := first | omega | decide) only [go_sem, f0, f1, f2]; exact hK _))
            refine aops_nil ?_
            refine AW.ret ?_
            refine ⟨.inr rfl, ?_⟩
            refine leaves_tmp1 6 rfl ?_ (by first | rfl | exact hG)
            simp (disch := first | omega | decide) only [go_sem, f0, f1, f2]
            clear hr hv hG f0 f1 f2
            have hM := refMay_may a b c
            have q0 := e_no (n := n)
            have q1 := e_ok (n := n)
            have q2 := fun h => slot_no (a := a) (b := b) (c := c) h gen i
            have q3 := slot_neg (a := a) (b := b) (c := c) (gen := gen)
            have q4 := slot_is (a := a) (b := b) (c := c) (gen := gen)
            have q5 := at_no (a := a) (b := b) (c := c) (i := i)
            have q6 := at_is (a := a) (b := b) (c := c) (i := i)
            cases hmp : mayP a b c <;> first | grind | (simp_all; done) | trace_state
  case hf =>
    intro hb
    try simp only [Bool.or_eq_true, Bool.and_eq_true, Bool.or_eq_false_iff, Bool.and_eq_false_iff, decide_eq_true_eq, decide_eq_false_iff_not] at hb
    refine AW.seq ?_
    refine AW.draw (cfg := cfg) (by kernel_rfl) (by kernel_rfl) (by kernel_rfl) ?_
    iterate 3 (apply adraw_step rfl; · (intro K hK; simp (disch := first | omega | decide) only [go_sem, f0, f1, f2]; exact hK))
    apply adraw_merge' (by first | exact want_of (d := 34) rfl (by simp (disch := first | omega | decide) only [go_sem, f0, f1, f2, opn_cond]; rfl) | exact want_of_cond (d := 34) rfl (by simp (disch := first | omega | decide) only [go_sem, f0, f1, f2, opn_cond]; rfl))
    · intro hc K hK
      have hc2 := hc
      simp only [beq_iff_eq, decide_eq_true_eq, decide_eq_false_iff_not, Bool.or_eq_true, Bool.and_eq_true, Bool.or_eq_false_iff, Bool.and_eq_false_iff] at hc2
      simp (disch := first | omega | decide) only [go_sem, f0, f1, f2, opn_cond, hc, if_true, act_load_t ti33]
      first | rw [mwp_load_bs (by simp (disch := first | omega | decide) only [go_sem, f0, f1, f2, opn_cond, hc, if_true]; rfl) (by simp)] | rw [mwp_load_b1 (by simp (disch := first | omega | decide) only [go_sem, f0, f1, f2, opn_cond, hc, if_true]; rfl) (by rfl)] | rw [mwp_aLoad_map (by simp (disch := first | omega | decide) only [go_sem, f0, f1, f2, opn_cond, hc, if_true]; rfl) (by first | omega | (simp; omega)) (fun _ => rfl)] | rw [mwp_aLoad_e1 (by simp (disch := first | omega | decide) only [go_sem, f0, f1, f2, opn_cond, hc, if_true]; rfl) (by simp) rfl] | skip
      exact hK
    apply adraw_merge' (by first | exact want_of (d := 34) rfl (by simp (disch := first | omega | decide) only [go_sem, f0, f1, f2, opn_cond]; rfl) | exact want_of_cond (d := 34) rfl (by simp (disch := first | omega | decide) only [go_sem, f0, f1, f2, opn_cond]; rfl))
    · intro hc K hK
      have hc2 := hc
      simp only [beq_iff_eq, decide_eq_true_eq, decide_eq_false_iff_not, Bool.or_eq_true, Bool.and_eq_true, Bool.or_eq_false_iff, Bool.and_eq_false_iff] at hc2
      simp (disch := first | omega | decide) only [go_sem, f0, f1, f2, opn_cond, hc, if_true]
      exact hK
    apply adraw_merge' (by first | exact want_of (d := 34) rfl (by simp (disch := first | omega | decide) only [go_sem, f0, f1, f2, opn_cond]; rfl) | exact want_of_cond (d := 34) rfl (by simp (disch := first | omega | decide) only [go_sem, f0, f1, f2, opn_cond]; rfl))
    · intro hc K hK
      have hc2 := hc
      simp only [beq_iff_eq, decide_eq_true_eq, decide_eq_false_iff_not, Bool.or_eq_true, Bool.and_eq_true, Bool.or_eq_false_iff, Bool.and_eq_false_iff] at hc2
      simp (disch := first | omega | decide) only [go_sem, f0, f1, f2, opn_cond, hc, if_true, act_call, List.map]
      apply mwp_call_r rfl rfl rfl
      · intro Q hQ
        simp (disch := first | omega | decide) only [go_sem, f0, f1, f2, opn_cond, hc, if_true, peekL]
        first | exact hQ | (rw [peek_own (by simp (disch := first | omega | decide) only [go_sem, f0, f1, f2, peekL]; rfl)]; exact hQ) | (rw [peek_own (by simp (disch := first | omega | decide) only [go_sem, f0, f1, f2, peekL]; rfl)]; simp (disch := first | omega | decide) only [go_sem, f0, f1, f2, peekL]; rw [peek_own (by simp (disch := first | omega | decide) only [go_sem, f0, f1, f2, peekL]; rfl)]; exact hQ) | (rw [peek_own (by simp (disch := first | omega | decide) only [go_sem, f0, f1, f2, peekL]; rfl)]; simp (disch := first | omega | decide) only [go_sem, f0, f1, f2, peekL]; exact hQ)
      · exact good_refMake _ (by omega)
      · simp [-List.map_take, -List.map_drop, noPtrL, noPtr, noPtrL_bsl, noPtrL_map, sub]
      · simp (disch := first | omega | decide) only [go_sem, f0, f1, f2, opn_cond, hc, if_true]
        exact hK
    apply adraw_merge' (by first | exact want_of (d := 34) rfl (by simp (disch := first | omega | decide) only [go_sem, f0, f1, f2, opn_cond]; rfl) | exact want_of_cond (d := 34) rfl (by simp (disch := first | omega | decide) only [go_sem, f0, f1, f2, opn_cond]; rfl))
    · intro hc K hK
      have hc2 := hc
      simp only [beq_iff_eq, decide_eq_true_eq, decide_eq_false_iff_not, Bool.or_eq_true, Bool.and_eq_true, Bool.or_eq_false_iff, Bool.and_eq_false_iff] at hc2
      simp (disch := first | omega | decide) only [go_sem, f0, f1, f2, opn_cond, hc, if_true, bin_neq_s us33 fl33 eg33]
      exact hK
    iterate 1 (apply adraw_step rfl; · (intro K hK; simp (disch := first | omega | decide) only [go_sem, f0, f1, f2]; exact hK))
    refine adraw_nil (by kernel_rfl) ?_
    apply AW.cond
    · simp (disch := first | omega | decide) only [go_sem, f0, f1, f2]; rfl
    case ht =>
      intro hb
      try simp only [Bool.or_eq_true, Bool.and_eq_true, Bool.or_eq_false_iff, Bool.and_eq_false_iff, decide_eq_true_eq, decide_eq_false_iff_not] at hb
      refine AW.seq ?_
      refine AW.region (cfg := cfg) ?_
      iterate 1 (apply aops_step (by decide) rfl; · (intro K hK; simp (disch := first | omega | decide) only [go_sem, f0, f1, f2]; exact hK _))
      refine aops_nil ?_
      refine AW.ret ?_
      refine ⟨.inr rfl, ?_⟩
      refine leaves_tmp1 6 rfl ?_ (by first | rfl | exact hG)
      simp (disch := first | omega | decide) only [go_sem, f0, f1, f2]
      clear hr hv hG f0 f1 f2
      have hM := refMay_may a b c
      have q0 := e_no (n := n)
      have q1 := e_ok (n := n)
      have q2 := fun h => slot_no (a := a) (b := b) (c := c) h gen i
      have q3 := slot_neg (a := a) (b := b) (c := c) (gen := gen)
      have q4 := slot_is (a := a) (b := b) (c := c) (gen := gen)
      have q5 := at_no (a := a) (b := b) (c := c) (i := i)
      have q6 := at_is (a := a) (b := b) (c := c) (i := i)
      cases hmp : mayP a b c <;> first | grind | (simp_all; done) | trace_state
    case hf =>
      intro hb
      try simp only [Bool.or_eq_true, Bool.and_eq_true, Bool.or_eq_false_iff, Bool.and_eq_false_iff, decide_eq_true_eq, decide_eq_false_iff_not] at hb
      refine AW.skip ?_
      refine AW.seq ?_
      refine AW.draw (cfg := cfg) (by kernel_rfl) (by kernel_rfl) (by kernel_rfl) ?_
      apply adraw_step rfl
      · intro K hK
        simp (disch := first | omega | decide) only [go_sem, f0, f1, f2, act_indexAddr_a u34 ti3 (by decide), List.map]
        first | rw [mwp_fieldAddr_b (by simp (disch := first | omega | decide) only [go_sem, f0, f1, f2]; rfl)] | skip
        exact hK
      apply adraw_step rfl
      · intro K hK
        simp (disch := first | omega | decide) only [go_sem, f0, f1, f2, act_load_t ti3, List.map]
        first | rw [mwp_load_bs (by simp (disch := first | omega | decide) only [go_sem, f0, f1, f2]; rfl) (by simp)] | rw [mwp_load_b1 (by simp (disch := first | omega | decide) only [go_sem, f0, f1, f2]; rfl) (by rfl)] | rw [mwp_aLoad_map (by simp (disch := first | omega | decide) only [go_sem, f0, f1, f2]; rfl) (by first | omega | (simp; omega)) (fun _ => rfl)] | rw [mwp_aLoad_e1 (by simp (disch := first | omega | decide) only [go_sem, f0, f1, f2]; rfl) (by simp) rfl] | skip
        exact hK
      apply adraw_step rfl
      · intro K hK
        simp (disch := first | omega | decide) only [go_sem, f0, f1, f2, act_indexAddr_a u34 ti3 (by decide), List.map]
        first | rw [mwp_fieldAddr_b (by simp (disch := first | omega | decide) only [go_sem, f0, f1, f2]; rfl)] | skip
        exact hK
      apply adraw_step rfl
      · intro K hK
        simp (disch := first | omega | decide) only [go_sem, f0, f1, f2, act_load_t ti3, List.map]
        first | rw [mwp_load_bs (by simp (disch := first | omega | decide) only [go_sem, f0, f1, f2]; rfl) (by simp)] | rw [mwp_load_b1 (by simp (disch := first | omega | decide) only [go_sem, f0, f1, f2]; rfl) (by rfl)] | rw [mwp_aLoad_map (by simp (disch := first | omega | decide) only [go_sem, f0, f1, f2]; rfl) (by first | omega | (simp; omega)) (fun _ => rfl)] | rw [mwp_aLoad_e1 (by simp (disch := first | omega | decide) only [go_sem, f0, f1, f2]; rfl) (by simp) rfl] | skip
        exact hK
      iterate 2 (apply adraw_step rfl; · (intro K hK; simp (disch := first | omega | decide) only [go_sem, f0, f1, f2]; exact hK))
      refine adraw_nil (by kernel_rfl) ?_
      refine AW.seq ?_
      refine AW.region (cfg := cfg) ?_
      apply aops_step (by decide) rfl
      · intro K hK
        simp (disch := first | omega | decide) only [go_sem, f0, f1, f2, act_load_t ti33, List.map]
        first | rw [mwp_load_bs (by simp (disch := first | omega | decide) only [go_sem, f0, f1, f2]; rfl) (by simp)] | rw [mwp_load_b1 (by simp (disch := first | omega | decide) only [go_sem, f0, f1, f2]; rfl) (by rfl)] | rw [mwp_aLoad_map (by simp (disch := first | omega | decide) only [go_sem, f0, f1, f2]; rfl) (by first | omega | (simp; omega)) (fun _ => rfl)] | rw [mwp_aLoad_e1 (by simp (disch := first | omega | decide) only [go_sem, f0, f1, f2]; rfl) (by simp) rfl] | skip
        exact hK _
      iterate 1 (apply aops_step (by decide) rfl; · (intro K hK; simp (disch := first | omega | decide) only [go_sem, f0, f1, f2]; exact hK _))
      apply aops_step (by decide) rfl
      · intro K hK
        simp (disch := first | omega | decide) only [go_sem, f0, f1, f2, act_call, List.map]
        apply mwp_call_r rfl rfl rfl
        · intro Q hQ
          simp (disch := first | omega | decide) only [go_sem, f0, f1, f2, peekL]
          first | exact hQ | (rw [peek_own (by simp (disch := first | omega | decide) only [go_sem, f0, f1, f2, peekL]; rfl)]; exact hQ) | (rw [peek_own (by simp (disch := first | omega | decide) only [go_sem, f0, f1, f2, peekL]; rfl)]; simp (disch := first | omega | decide) only [go_sem, f0, f1, f2, peekL]; rw [peek_own (by simp (disch := first | omega | decide) only [go_sem, f0, f1, f2, peekL]; rfl)]; exact hQ) | (rw [peek_own (by simp (disch := first | omega | decide) only [go_sem, f0, f1, f2, peekL]; rfl)]; simp (disch := first | omega | decide) only [go_sem, f0, f1, f2, peekL]; exact hQ)
        · exact good_Slot _ _ _ _
        · simp [-List.map_take, -List.map_drop, noPtrL, noPtr, noPtrL_bsl, noPtrL_map, sub]
        · simp (disch := first | omega | decide) only [go_sem, f0, f1, f2]
          exact hK _
      iterate 5 (apply aops_step (by decide) rfl; · (intro K hK; simp (disch := first | omega | decide) only [go_sem, f0, f1, f2]; exact hK _))
      refine aops_nil ?_
      refine AW.seq ?_
      refine AW.region (cfg := cfg) ?_
      apply aops_step (by decide) rfl
      · intro K hK
        simp (disch := first | omega | decide) only [go_sem, f0, f1, f2, act_load_t ti33, List.map]
        first | rw [mwp_load_bs (by simp (disch := first | omega | decide) only [go_sem, f0, f1, f2]; rfl) (by simp)] | rw [mwp_load_b1 (by simp (disch := first | omega | decide) only [go_sem, f0, f1, f2]; rfl) (by rfl)] | rw [mwp_aLoad_map (by simp (disch := first | omega | decide) only [go_sem, f0, f1, f2]; rfl) (by first | omega | (simp; omega)) (fun _ => rfl)] | rw [mwp_aLoad_e1 (by simp (disch := first | omega | decide) only [go_sem, f0, f1, f2]; rfl) (by simp) rfl] | skip
        exact hK _
      iterate 1 (apply aops_step (by decide) rfl; · (intro K hK; simp (disch := first | omega | decide) only [go_sem, f0, f1, f2]; exact hK _))
      apply aops_step (by decide) rfl
      · intro K hK
        simp (disch := first | omega | decide) only [go_sem, f0, f1, f2, act_call, List.map]
        apply mwp_call_s rfl rfl rfl
        · intro Q hQ
          simp (disch := first | omega | decide) only [go_sem, f0, f1, f2, peekL]
          first | exact hQ | (rw [peek_own (by simp (disch := first | omega | decide) only [go_sem, f0, f1, f2, peekL]; rfl)]; exact hQ) | (rw [peek_own (by simp (disch := first | omega | decide) only [go_sem, f0, f1, f2, peekL]; rfl)]; simp (disch := first | omega | decide) only [go_sem, f0, f1, f2, peekL]; rw [peek_own (by simp (disch := first | omega | decide) only [go_sem, f0, f1, f2, peekL]; rfl)]; exact hQ) | (rw [peek_own (by simp (disch := first | omega | decide) only [go_sem, f0, f1, f2, peekL]; rfl)]; simp (disch := first | omega | decide) only [go_sem, f0, f1, f2, peekL]; exact hQ)
        · exact good_At _ _ _ _
        · simp [-List.map_take, -List.map_drop, noPtrL, noPtr, noPtrL_bsl, noPtrL_map, sub]
        · rfl
        · exact hK _
      iterate 1 (apply aops_step (by decide) rfl; · (intro K hK; simp (disch := first | omega | decide) only [go_sem, f0, f1, f2]; exact hK _))
      refine aops_nil ?_
      refine AW.seq ?_
      refine AW.seq ?_
      refine AW.region (cfg := cfg) ?_
      apply aops_step (by decide) rfl
      · intro K hK
        simp (disch := first | omega | decide) only [go_sem, f0, f1, f2, act_load_t ti33, List.map]
        first | rw [mwp_load_bs (by simp (disch := first | omega | decide) only [go_sem, f0, f1, f2]; rfl) (by simp)] | rw [mwp_load_b1 (by simp (disch := first | omega | decide) only [go_sem, f0, f1, f2]; rfl) (by rfl)] | rw [mwp_aLoad_map (by simp (disch := first | omega | decide) only [go_sem, f0, f1, f2]; rfl) (by first | omega | (simp; omega)) (fun _ => rfl)] | rw [mwp_aLoad_e1 (by simp (disch := first | omega | decide) only [go_sem, f0, f1, f2]; rfl) (by simp) rfl] | skip
        exact hK _
      apply aops_step (by decide) rfl
      · intro K hK
        simp (disch := first | omega | decide) only [go_sem, f0, f1, f2, act_call, List.map]
        apply mwp_call_s rfl rfl rfl
        · intro Q hQ
          simp (disch := first | omega | decide) only [go_sem, f0, f1, f2, peekL]
          first | exact hQ | (rw [peek_own (by simp (disch := first | omega | decide) only [go_sem, f0, f1, f2, peekL]; rfl)]; exact hQ) | (rw [peek_own (by simp (disch := first | omega | decide) only [go_sem, f0, f1, f2, peekL]; rfl)]; simp (disch := first | omega | decide) only [go_sem, f0, f1, f2, peekL]; rw [peek_own (by simp (disch := first | omega | decide) only [go_sem, f0, f1, f2, peekL]; rfl)]; exact hQ) | (rw [peek_own (by simp (disch := first | omega | decide) only [go_sem, f0, f1, f2, peekL]; rfl)]; simp (disch := first | omega | decide) only [go_sem, f0, f1, f2, peekL]; exact hQ)
        · exact good_refMay _ _ _
        · simp [-List.map_take, -List.map_drop, noPtrL, noPtr, noPtrL_bsl, noPtrL_map, sub]
        · rfl
        · exact hK _
      iterate 1 (apply aops_step (by decide) rfl; · (intro K hK; simp (disch := first | omega | decide) only [go_sem, f0, f1, f2]; exact hK _))
      refine aops_nil ?_
      apply AW.cond
      · simp (disch := first | omega | decide) only [go_sem, f0, f1, f2]; rfl
      case ht =>
        intro hb
        try simp only [Bool.or_eq_true, Bool.and_eq_true, Bool.or_eq_false_iff, Bool.and_eq_false_iff, decide_eq_true_eq, decide_eq_false_iff_not] at hb
        refine AW.seq ?_
        refine AW.region (cfg := cfg) ?_
        iterate 3 (apply aops_step (by decide) rfl; · (intro K hK; simp (disch := first | omega | decide) only [go_sem, f0, f1, f2]; exact hK _))
        apply aops_merge' (by decide) (by first | exact want_of (d := 58) rfl (by simp (disch := first | omega | decide) only [go_sem, f0, f1, f2, opn_cond]; rfl) | exact want_of_cond (d := 58) rfl (by simp (disch := first | omega | decide) only [go_sem, f0, f1, f2, opn_cond]; rfl))
        · intro hc K hK
          have hc2 := hc
          simp only [beq_iff_eq, decide_eq_true_eq, decide_eq_false_iff_not, Bool.or_eq_true, Bool.and_eq_true, Bool.or_eq_false_iff, Bool.and_eq_false_iff] at hc2
          simp (disch := first | omega | decide) only [go_sem, f0, f1, f2, opn_cond, hc, if_true]
          exact hK _
        apply aops_merge' (by decide) (by first | exact want_of (d := 58) rfl (by simp (disch := first | omega | decide) only [go_sem, f0, f1, f2, opn_cond]; rfl) | exact want_of_cond (d := 58) rfl (by simp (disch := first | omega | decide) only [go_sem, f0, f1, f2, opn_cond]; rfl))
        · intro hc K hK
          have hc2 := hc
          simp only [beq_iff_eq, decide_eq_true_eq, decide_eq_false_iff_not, Bool.or_eq_true, Bool.and_eq_true, Bool.or_eq_false_iff, Bool.and_eq_false_iff] at hc2
          simp (disch := first | omega | decide) only [go_sem, f0, f1, f2, opn_cond, hc, if_true]
          exact hK _
        iterate 2 (apply aops_step (by decide) rfl; · (intro K hK; simp (disch := first | omega | decide) only [go_sem, f0, f1, f2]; exact hK _))
        apply aops_merge' (by decide) (by first | exact want_of (d := 62) rfl (by simp (disch := first | omega | decide) only [go_sem, f0, f1, f2, opn_cond]; rfl) | exact want_of_cond (d := 62) rfl (by simp (disch := first | omega | decide) only [go_sem, f0, f1, f2, opn_cond]; rfl))
        · intro hc K hK
          have hc2 := hc
          simp only [beq_iff_eq, decide_eq_true_eq, decide_eq_false_iff_not, Bool.or_eq_true, Bool.and_eq_true, Bool.or_eq_false_iff, Bool.and_eq_false_iff] at hc2
          simp (disch := first | omega | decide) only [go_sem, f0, f1, f2, opn_cond, hc, if_true]
          exact hK _
        apply aops_merge' (by decide) (by first | exact want_of (d := 62) rfl (by simp (disch := first | omega | decide) only [go_sem, f0, f1, f2, opn_cond]; rfl) | exact want_of_cond (d := 62) rfl (by simp (disch := first | omega | decide) only [go_sem, f0, f1, f2, opn_cond]; rfl))
        · intro hc K hK
          have hc2 := hc
          simp only [beq_iff_eq, decide_eq_true_eq, decide_eq_false_iff_not, Bool.or_eq_true, Bool.and_eq_true, Bool.or_eq_false_iff, Bool.and_eq_false_iff] at hc2
          simp (disch := first | omega | decide) only [go_sem, f0, f1, f2, opn_cond, hc, if_true]
          exact hK _
        iterate 2 (apply aops_step (by decide) rfl; · (intro K hK; simp (disch := first | omega | decide) only [go_sem, f0, f1, f2]; exact hK _))
        apply aops_merge' (by decide) (by first | exact want_of (d := 66) rfl (by simp (disch := first | omega | decide) only [go_sem, f0, f1, f2, opn_cond]; rfl) | exact want_of_cond (d := 66) rfl (by simp (disch := first | omega | decide) only [go_sem, f0, f1, f2, opn_cond]; rfl))
        · intro hc K hK
          have hc2 := hc
          simp only [beq_iff_eq, decide_eq_true_eq, decide_eq_false_iff_not, Bool.or_eq_true, Bool.and_eq_true, Bool.or_eq_false_iff, Bool.and_eq_false_iff] at hc2
          simp (disch := first | omega | decide) only [go_sem, f0, f1, f2, opn_cond, hc, if_true, act_call, List.map]
          apply mwp_call_s rfl rfl rfl
          · intro Q hQ
            simp (disch := first | omega | decide) only [go_sem, f0, f1, f2, opn_cond, hc, if_true, peekL]
            first | exact hQ | (rw [peek_own (by simp (disch := first | omega | decide) only [go_sem, f0, f1, f2, peekL]; rfl)]; exact hQ) | (rw [peek_own (by simp (disch := first | omega | decide) only [go_sem, f0, f1, f2, peekL]; rfl)]; simp (disch := first | omega | decide) only [go_sem, f0, f1, f2, peekL]; rw [peek_own (by simp (disch := first | omega | decide) only [go_sem, f0, f1, f2, peekL]; rfl)]; exact hQ) | (rw [peek_own (by simp (disch := first | omega | decide) only [go_sem, f0, f1, f2, peekL]; rfl)]; simp (disch := first | omega | decide) only [go_sem, f0, f1, f2, peekL]; exact hQ)
          · exact good_awake
          · simp [-List.map_take, -List.map_drop, noPtrL, noPtr, noPtrL_bsl, noPtrL_map, sub]
          · rfl
          · exact hK _
        iterate 2 (apply aops_step (by decide) rfl; · (intro K hK; simp (disch := first | omega | decide) only [go_sem, f0, f1, f2]; exact hK _))
        refine aops_nil ?_
        refine AW.ret ?_
        refine ⟨.inr rfl, ?_⟩
        refine leaves_tmp1 6 rfl ?_ (by first | rfl | exact hG)
        simp (disch := first | omega | decide) only [go_sem, f0, f1, f2]
        clear hr hv hG f0 f1 f2
        have hM := refMay_may a b c
        have q0 := e_no (n := n)
        have q1 := e_ok (n := n)
        have q2 := fun h => slot_no (a := a) (b := b) (c := c) h gen i
        have q3 := slot_neg (a := a) (b := b) (c := c) (gen := gen)
        have q4 := slot_is (a := a) (b := b) (c := c) (gen := gen)
        have q5 := at_no (a := a) (b := b) (c := c) (i := i)
        have q6 := at_is (a := a) (b := b) (c := c) (i := i)
        cases hmp : mayP a b c <;> first | grind | (simp_all; done) | trace_state
      case hf =>
        intro hb
        try simp only [Bool.or_eq_true, Bool.and_eq_true, Bool.or_eq_false_iff, Bool.and_eq_false_iff, decide_eq_true_eq, decide_eq_false_iff_not] at hb
        refine AW.skip ?_
        refine AW.seq ?_
        refine AW.seq ?_
        refine AW.region (cfg := cfg) ?_
        iterate 3 (apply aops_step (by decide) rfl; · (intro K hK; simp (disch := first | omega | decide) only [go_sem, f0, f1, f2]; exact hK _))
        apply aops_merge' (by decide) (by first | exact want_of (d := 71) rfl (by simp (disch := first | omega | decide) only [go_sem, f0, f1, f2, opn_cond]; rfl) | exact want_of_cond (d := 71) rfl (by simp (disch := first | omega | decide) only [go_sem, f0, f1, f2, opn_cond]; rfl))
        · intro hc K hK
          have hc2 := hc
          simp only [beq_iff_eq, decide_eq_true_eq, decide_eq_false_iff_not, Bool.or_eq_true, Bool.and_eq_true, Bool.or_eq_false_iff, Bool.and_eq_false_iff] at hc2
          simp (disch := first | omega | decide) only [go_sem, f0, f1, f2, opn_cond, hc, if_true]
          exact hK _
        apply aops_merge' (by decide) (by first | exact want_of (d := 71) rfl (by simp (disch := first | omega | decide) only [go_sem, f0, f1, f2, opn_cond]; rfl) | exact want_of_cond (d := 71) rfl (by simp (disch := first | omega | decide) only [go_sem, f0, f1, f2, opn_cond]; rfl))
        · intro hc K hK
          have hc2 := hc
          simp only [beq_iff_eq, decide_eq_true_eq, decide_eq_false_iff_not, Bool.or_eq_true, Bool.and_eq_true, Bool.or_eq_false_iff, Bool.and_eq_false_iff] at hc2
          simp (disch := first | omega | decide) only [go_sem, f0, f1, f2, opn_cond, hc, if_true]
          exact hK _
        apply aops_merge' (by decide) (by first | exact want_of (d := 71) rfl (by simp (disch := first | omega | decide) only [go_sem, f0, f1, f2, opn_cond]; rfl) | exact want_of_cond (d := 71) rfl (by simp (disch := first | omega | decide) only [go_sem, f0, f1, f2, opn_cond]; rfl))
        · intro hc K hK
          have hc2 := hc
          simp only [beq_iff_eq, decide_eq_true_eq, decide_eq_false_iff_not, Bool.or_eq_true, Bool.and_eq_true, Bool.or_eq_false_iff, Bool.and_eq_false_iff] at hc2
          simp (disch := first | omega | decide) only [go_sem, f0, f1, f2, opn_cond, hc, if_true]
          exact hK _
        apply aops_merge' (by decide) (by first | exact want_of (d := 74) rfl (by simp (disch := first | omega | decide) only [go_sem, f0, f1, f2, opn_cond]; rfl) | exact want_of_cond (d := 74) rfl (by simp (disch := first | omega | decide) only [go_sem, f0, f1, f2, opn_cond]; rfl))
        · intro hc K hK
          have hc2 := hc
          simp only [beq_iff_eq, decide_eq_true_eq, decide_eq_false_iff_not, Bool.or_eq_true, Bool.and_eq_true, Bool.or_eq_false_iff, Bool.and_eq_false_iff] at hc2
          simp (disch := first | omega | decide) only [go_sem, f0, f1, f2, opn_cond, hc, if_true]
          exact hK _
        apply aops_merge' (by decide) (by first | exact want_of (d := 74) rfl (by simp (disch := first | omega | decide) only [go_sem, f0, f1, f2, opn_cond]; rfl) | exact want_of_cond (d := 74) rfl (by simp (disch := first | omega | decide) only [go_sem, f0, f1, f2, opn_cond]; rfl))
        · intro hc K hK
          have hc2 := hc
          simp only [beq_iff_eq, decide_eq_true_eq, decide_eq_false_iff_not, Bool.or_eq_true, Bool.and_eq_true, Bool.or_eq_false_iff, Bool.and_eq_false_iff] at hc2
          simp (disch := first | omega | decide) only [go_sem, f0, f1, f2, opn_cond, hc, if_true]
          exact hK _
        apply aops_merge' (by decide) (by first | exact want_of (d := 71) rfl (by simp (disch := first | omega | decide) only [go_sem, f0, f1, f2, opn_cond]; rfl) | exact want_of_cond (d := 71) rfl (by simp (disch := first | omega | decide) only [go_sem, f0, f1, f2, opn_cond]; rfl))
        · intro hc K hK
          have hc2 := hc
          simp only [beq_iff_eq, decide_eq_true_eq, decide_eq_false_iff_not, Bool.or_eq_true, Bool.and_eq_true, Bool.or_eq_false_iff, Bool.and_eq_false_iff] at hc2
          simp (disch := first | omega | decide) only [go_sem, f0, f1, f2, opn_cond, hc, if_true]
          exact hK _
        iterate 2 (apply aops_step (by decide) rfl; · (intro K hK; simp (disch := first | omega | decide) only [go_sem, f0, f1, f2]; exact hK _))
        apply aops_merge' (by decide) (by first | exact want_of (d := 79) rfl (by simp (disch := first | omega | decide) only [go_sem, f0, f1, f2, opn_cond]; rfl) | exact want_of_cond (d := 79) rfl (by simp (disch := first | omega | decide) only [go_sem, f0, f1, f2, opn_cond]; rfl))
        · intro hc K hK
          have hc2 := hc
          simp only [beq_iff_eq, decide_eq_true_eq, decide_eq_false_iff_not, Bool.or_eq_true, Bool.and_eq_true, Bool.or_eq_false_iff, Bool.and_eq_false_iff] at hc2
          simp (disch := first | omega | decide) only [go_sem, f0, f1, f2, opn_cond, hc, if_true]
          exact hK _
        apply aops_merge' (by decide) (by first | exact want_of (d := 79) rfl (by simp (disch := first | omega | decide) only [go_sem, f0, f1, f2, opn_cond]; rfl) | exact want_of_cond (d := 79) rfl (by simp (disch := first | omega | decide) only [go_sem, f0, f1, f2, opn_cond]; rfl))
        · intro hc K hK
          have hc2 := hc
          simp only [beq_iff_eq, decide_eq_true_eq, decide_eq_false_iff_not, Bool.or_eq_true, Bool.and_eq_true, Bool.or_eq_false_iff, Bool.and_eq_false_iff] at hc2
          simp (disch := first | omega | decide) only [go_sem, f0, f1, f2, opn_cond, hc, if_true]
          exact hK _
        apply aops_merge' (by decide) (by first | exact want_of (d := 79) rfl (by simp (disch := first | omega | decide) only [go_sem, f0, f1, f2, opn_cond]; rfl) | exact want_of_cond (d := 79) rfl (by simp (disch := first | omega | decide) only [go_sem, f0, f1, f2, opn_cond]; rfl))
        · intro hc K hK
          have hc2 := hc
          simp only [beq_iff_eq, decide_eq_true_eq, decide_eq_false_iff_not, Bool.or_eq_true, Bool.and_eq_true, Bool.or_eq_false_iff, Bool.and_eq_false_iff] at hc2
          simp (disch := first | omega | decide) only [go_sem, f0, f1, f2, opn_cond, hc, if_true]
          exact hK _
        apply aops_merge' (by decide) (by first | exact want_of (d := 82) rfl (by simp (disch := first | omega | decide) only [go_sem, f0, f1, f2, opn_cond]; rfl) | exact want_of_cond (d := 82) rfl (by simp (disch := first | omega | decide) only [go_sem, f0, f1, f2, opn_cond]; rfl))
        · intro hc K hK
          have hc2 := hc
          simp only [beq_iff_eq, decide_eq_true_eq, decide_eq_false_iff_not, Bool.or_eq_true, Bool.and_eq_true, Bool.or_eq_false_iff, Bool.and_eq_false_iff] at hc2
          simp (disch := first | omega | decide) only [go_sem, f0, f1, f2, opn_cond, hc, if_true]
          exact hK _
        apply aops_merge' (by decide) (by first | exact want_of (d := 82) rfl (by simp (disch := first | omega | decide) only [go_sem, f0, f1, f2, opn_cond]; rfl) | exact want_of_cond (d := 82) rfl (by simp (disch := first | omega | decide) only [go_sem, f0, f1, f2, opn_cond]; rfl))
        · intro hc K hK
          have hc2 := hc
          simp only [beq_iff_eq, decide_eq_true_eq, decide_eq_false_iff_not, Bool.or_eq_true, Bool.and_eq_true, Bool.or_eq_false_iff, Bool.and_eq_false_iff] at hc2
          simp (disch := first | omega | decide) only [go_sem, f0, f1, f2, opn_cond, hc, if_true]
          exact hK _
        apply aops_merge' (by decide) (by first | exact want_of (d := 82) rfl (by simp (disch := first | omega | decide) only [go_sem, f0, f1, f2, opn_cond]; rfl) | exact want_of_cond (d := 82) rfl (by simp (disch := first | omega | decide) only [go_sem, f0, f1, f2, opn_cond]; rfl))
        · intro hc K hK
          have hc2 := hc
          simp only [beq_iff_eq, decide_eq_true_eq, decide_eq_false_iff_not, Bool.or_eq_true, Bool.and_eq_true, Bool.or_eq_false_iff, Bool.and_eq_false_iff] at hc2
          simp (disch := first | omega | decide) only [go_sem, f0, f1, f2, opn_cond, hc, if_true]
          exact hK _
        apply aops_merge' (by decide) (by first | exact want_of (d := 82) rfl (by simp (disch := first | omega | decide) only [go_sem, f0, f1, f2, opn_cond]; rfl) | exact want_of_cond (d := 82) rfl (by simp (disch := first | omega | decide) only [go_sem, f0, f1, f2, opn_cond]; rfl))
        · intro hc K hK
          have hc2 := hc
          simp only [beq_iff_eq, decide_eq_true_eq, decide_eq_false_iff_not, Bool.or_eq_true, Bool.and_eq_true, Bool.or_eq_false_iff, Bool.and_eq_false_iff] at hc2
          simp (disch := first | omega | decide) only [go_sem, f0, f1, f2, opn_cond, hc, if_true, act_fieldAddr_t fo33_0]
          first | rw [mwp_fieldAddr_b (by simp (disch := first | omega | decide) only [go_sem, f0, f1, f2, opn_cond, hc, if_true]; rfl)] | skip
          exact hK _
        apply aops_merge' (by decide) (by first | exact want_of (d := 82) rfl (by simp (disch := first | omega | decide) only [go_sem, f0, f1, f2, opn_cond]; rfl) | exact want_of_cond (d := 82) rfl (by simp (disch := first | omega | decide) only [go_sem, f0, f1, f2, opn_cond]; rfl))
        · intro hc K hK
          have hc2 := hc
          simp only [beq_iff_eq, decide_eq_true_eq, decide_eq_false_iff_not, Bool.or_eq_true, Bool.and_eq_true, Bool.or_eq_false_iff, Bool.and_eq_false_iff] at hc2
          simp (disch := first | omega | decide) only [go_sem, f0, f1, f2, opn_cond, hc, if_true, act_load_t ti3]
          first | rw [mwp_load_bs (by simp (disch := first | omega | decide) only [go_sem, f0, f1, f2, opn_cond, hc, if_true]; rfl) (by simp)] | rw [mwp_load_b1 (by simp (disch := first | omega | decide) only [go_sem, f0, f1, f2, opn_cond, hc, if_true]; rfl) (by rfl)] | rw [mwp_aLoad_map (by simp (disch := first | omega | decide) only [go_sem, f0, f1, f2, opn_cond, hc, if_true]; rfl) (by first | omega | (simp; omega)) (fun _ => rfl)] | rw [mwp_aLoad_e1 (by simp (disch := first | omega | decide) only [go_sem, f0, f1, f2, opn_cond, hc, if_true]; rfl) (by simp) rfl] | skip
          exact hK _
        apply aops_merge' (by decide) (by first | exact want_of (d := 82) rfl (by simp (disch := first | omega | decide) only [go_sem, f0, f1, f2, opn_cond]; rfl) | exact want_of_cond (d := 82) rfl (by simp (disch := first | omega | decide) only [go_sem, f0, f1, f2, opn_cond]; rfl))
        · intro hc K hK
          have hc2 := hc
          simp only [beq_iff_eq, decide_eq_true_eq, decide_eq_false_iff_not, Bool.or_eq_true, Bool.and_eq_true, Bool.or_eq_false_iff, Bool.and_eq_false_iff] at hc2
          simp (disch := first | omega | decide) only [go_sem, f0, f1, f2, opn_cond, hc, if_true]
          exact hK _
        apply aops_merge' (by decide) (by first | exact want_of (d := 82) rfl (by simp (disch := first | omega | decide) only [go_sem, f0, f1, f2, opn_cond]; rfl) | exact want_of_cond (d := 82) rfl (by simp (disch := first | omega | decide) only [go_sem, f0, f1, f2, opn_cond]; rfl))
        · intro hc K hK
          have hc2 := hc
          simp only [beq_iff_eq, decide_eq_true_eq, decide_eq_false_iff_not, Bool.or_eq_true, Bool.and_eq_true, Bool.or_eq_false_iff, Bool.and_eq_false_iff] at hc2
          simp (disch := first | omega | decide) only [go_sem, f0, f1, f2, opn_cond, hc, if_true]
          exact hK _
        apply aops_merge' (by decide) (by first | exact want_of (d := 82) rfl (by simp (disch := first | omega | decide) only [go_sem, f0, f1, f2, opn_cond]; rfl) | exact want_of_cond (d := 82) rfl (by simp (disch := first | omega | decide) only [go_sem, f0, f1, f2, opn_cond]; rfl))
        · intro hc K hK
          have hc2 := hc
          simp only [beq_iff_eq, decide_eq_true_eq, decide_eq_false_iff_not, Bool.or_eq_true, Bool.and_eq_true, Bool.or_eq_false_iff, Bool.and_eq_false_iff] at hc2
          simp (disch := first | omega | decide) only [go_sem, f0, f1, f2, opn_cond, hc, if_true]
          exact hK _
        apply aops_merge' (by decide) (by first | exact want_of (d := 90) rfl (by simp (disch := first | omega | decide) only [go_sem, f0, f1, f2, opn_cond]; rfl) | exact want_of_cond (d := 90) rfl (by simp (disch := first | omega | decide) only [go_sem, f0, f1, f2, opn_cond]; rfl))
        · intro hc K hK
          have hc2 := hc
          simp only [beq_iff_eq, decide_eq_true_eq, decide_eq_false_iff_not, Bool.or_eq_true, Bool.and_eq_true, Bool.or_eq_false_iff, Bool.and_eq_false_iff] at hc2
          simp (disch := first | omega | decide) only [go_sem, f0, f1, f2, opn_cond, hc, if_true]
          exact hK _
        apply aops_merge' (by decide) (by first | exact want_of (d := 90) rfl (by simp (disch := first | omega | decide) only [go_sem, f0, f1, f2, opn_cond]; rfl) | exact want_of_cond (d := 90) rfl (by simp (disch := first | omega | decide) only [go_sem, f0, f1, f2, opn_cond]; rfl))
        · intro hc K hK
          have hc2 := hc
          simp only [beq_iff_eq, decide_eq_true_eq, decide_eq_false_iff_not, Bool.or_eq_true, Bool.and_eq_true, Bool.or_eq_false_iff, Bool.and_eq_false_iff] at hc2
          simp (disch := first | omega | decide) only [go_sem, f0, f1, f2, opn_cond, hc, if_true]
          exact hK _
        apply aops_merge' (by decide) (by first | exact want_of (d := 90) rfl (by simp (disch := first | omega | decide) only [go_sem, f0, f1, f2, opn_cond]; rfl) | exact want_of_cond (d := 90) rfl (by simp (disch := first | omega | decide) only [go_sem, f0, f1, f2, opn_cond]; rfl))
        · intro hc K hK
          have hc2 := hc
          simp only [beq_iff_eq, decide_eq_true_eq, decide_eq_false_iff_not, Bool.or_eq_true, Bool.and_eq_true, Bool.or_eq_false_iff, Bool.and_eq_false_iff] at hc2
          simp (disch := first | omega | decide) only [go_sem, f0, f1, f2, opn_cond, hc, if_true, act_fieldAddr_t fo33_0]
          first | rw [mwp_fieldAddr_b (by simp (disch := first | omega | decide) only [go_sem, f0, f1, f2, opn_cond, hc, if_true]; rfl)] | skip
          exact hK _
        apply aops_merge' (by decide) (by first | exact want_of (d := 90) rfl (by simp (disch := first | omega | decide) only [go_sem, f0, f1, f2, opn_cond]; rfl) | exact want_of_cond (d := 90) rfl (by simp (disch := first | omega | decide) only [go_sem, f0, f1, f2, opn_cond]; rfl))
        · intro hc K hK
          have hc2 := hc
          simp only [beq_iff_eq, decide_eq_true_eq, decide_eq_false_iff_not, Bool.or_eq_true, Bool.and_eq_true, Bool.or_eq_false_iff, Bool.and_eq_false_iff] at hc2
          simp (disch := first | omega | decide) only [go_sem, f0, f1, f2, opn_cond, hc, if_true, act_load_t ti3]
          first | rw [mwp_load_bs (by simp (disch := first | omega | decide) only [go_sem, f0, f1, f2, opn_cond, hc, if_true]; rfl) (by simp)] | rw [mwp_load_b1 (by simp (disch := first | omega | decide) only [go_sem, f0, f1, f2, opn_cond, hc, if_true]; rfl) (by rfl)] | rw [mwp_aLoad_map (by simp (disch := first | omega | decide) only [go_sem, f0, f1, f2, opn_cond, hc, if_true]; rfl) (by first | omega | (simp; omega)) (fun _ => rfl)] | rw [mwp_aLoad_e1 (by simp (disch := first | omega | decide) only [go_sem, f0, f1, f2, opn_cond, hc, if_true]; rfl) (by simp) rfl] | skip
          exact hK _
        apply aops_merge' (by decide) (by first | exact want_of (d := 90) rfl (by simp (disch := first | omega | decide) only [go_sem, f0, f1, f2, opn_cond]; rfl) | exact want_of_cond (d := 90) rfl (by simp (disch := first | omega | decide) only [go_sem, f0, f1, f2, opn_cond]; rfl))
        · intro hc K hK
          have hc2 := hc
          simp only [beq_iff_eq, decide_eq_true_eq, decide_eq_false_iff_not, Bool.or_eq_true, Bool.and_eq_true, Bool.or_eq_false_iff, Bool.and_eq_false_iff] at hc2
          simp (disch := first | omega | decide) only [go_sem, f0, f1, f2, opn_cond, hc, if_true]
          exact hK _
        apply aops_merge' (by decide) (by first | exact want_of (d := 90) rfl (by simp (disch := first | omega | decide) only [go_sem, f0, f1, f2, opn_cond]; rfl) | exact want_of_cond (d := 90) rfl (by simp (disch := first | omega | decide) only [go_sem, f0, f1, f2, opn_cond]; rfl))
        · intro hc K hK
          have hc2 := hc
          simp only [beq_iff_eq, decide_eq_true_eq, decide_eq_false_iff_not, Bool.or_eq_true, Bool.and_eq_true, Bool.or_eq_false_iff, Bool.and_eq_false_iff] at hc2
          simp (disch := first | omega | decide) only [go_sem, f0, f1, f2, opn_cond, hc, if_true]
          exact hK _
        apply aops_merge' (by decide) (by first | exact want_of (d := 82) rfl (by simp (disch := first | omega | decide) only [go_sem, f0, f1, f2, opn_cond]; rfl) | exact want_of_cond (d := 82) rfl (by simp (disch := first | omega | decide) only [go_sem, f0, f1, f2, opn_cond]; rfl))
        · intro hc K hK
          have hc2 := hc
          simp only [beq_iff_eq, decide_eq_true_eq, decide_eq_false_iff_not, Bool.or_eq_true, Bool.and_eq_true, Bool.or_eq_false_iff, Bool.and_eq_false_iff] at hc2
          simp (disch := first | omega | decide) only [go_sem, f0, f1, f2, opn_cond, hc, if_true]
          exact hK _
        apply aops_merge' (by decide) (by first | exact want_of (d := 79) rfl (by simp (disch := first | omega | decide) only [go_sem, f0, f1, f2, opn_cond]; rfl) | exact want_of_cond (d := 79) rfl (by simp (disch := first | omega | decide) only [go_sem, f0, f1, f2, opn_cond]; rfl))
        · intro hc K hK
          have hc2 := hc
          simp only [beq_iff_eq, decide_eq_true_eq, decide_eq_false_iff_not, Bool.or_eq_true, Bool.and_eq_true, Bool.or_eq_false_iff, Bool.and_eq_false_iff] at hc2
          simp (disch := first | omega | decide) only [go_sem, f0, f1, f2, opn_cond, hc, if_true]
          exact hK _
        iterate 1 (apply aops_step (by decide) rfl; · (intro K hK; simp (disch := first | omega | decide) only [go_sem, f0, f1, f2]; exact hK _))
        refine aops_nil ?_
        apply AW.cond
        · simp (disch := first | omega | decide) only [go_sem, f0, f1, f2]; rfl
        case ht =>
          intro hb
          try simp only [Bool.or_eq_true, Bool.and_eq_true, Bool.or_eq_false_iff, Bool.and_eq_false_iff, decide_eq_true_eq, decide_eq_false_iff_not] at hb
          refine AW.seq ?_
          refine AW.region (cfg := cfg) ?_
          iterate 1 (apply aops_step (by decide) rfl; · (intro K hK; simp (disch := first | omega | decide) only [go_sem, f0, f1, f2]; exact hK _))
          refine aops_nil ?_
          refine AW.ret ?_
          refine ⟨.inr rfl, ?_⟩
          refine leaves_tmp1 6 rfl ?_ (by first | rfl | exact hG)
          simp (disch := first | omega | decide) only [go_sem, f0, f1, f2]
          clear hr hv hG f0 f1 f2
          have hM := refMay_may a b c
          have q0 := e_no (n := n)
          have q1 := e_ok (n := n)
          have q2 := fun h => slot_no (a := a) (b := b) (c := c) h gen i
          have q3 := slot_neg (a := a) (b := b) (c := c) (gen := gen)
          have q4 := slot_is (a := a) (b := b) (c := c) (gen := gen)
          have q5 := at_no (a := a) (b := b) (c := c) (i := i)
          have q6 := at_is (a := a) (b := b) (c := c) (i := i)
          cases hmp : mayP a b c <;> first | grind | (simp_all; done) | trace_state
        case hf =>
          intro hb
          try simp only [Bool.or_eq_true, Bool.and_eq_true, Bool.or_eq_false_iff, Bool.and_eq_false_iff, decide_eq_true_eq, decide_eq_false_iff_not] at hb
          refine AW.skip ?_
          refine AW.seq ?_
          refine AW.seq ?_
          refine AW.region (cfg := cfg) ?_
          iterate 3 (apply aops_step (by decide) rfl; · (intro K hK; simp (disch := first | omega | decide) only [go_sem, f0, f1, f2]; exact hK _))
          apply aops_merge' (by decide) (by first | exact want_of (d := 102) rfl (by simp (disch := first | omega | decide) only [go_sem, f0, f1, f2, opn_cond]; rfl) | exact want_of_cond (d := 102) rfl (by simp (disch := first | omega | decide) only [go_sem, f0, f1, f2, opn_cond]; rfl))
          · intro hc K hK
            have hc2 := hc
            simp only [beq_iff_eq, decide_eq_true_eq, decide_eq_false_iff_not, Bool.or_eq_true, Bool.and_eq_true, Bool.or_eq_false_iff, Bool.and_eq_false_iff] at hc2
            simp (disch := first | omega | decide) only [go_sem, f0, f1, f2, opn_cond, hc, if_true]
            exact hK _
          apply aops_merge' (by decide) (by first | exact want_of (d := 102) rfl (by simp (disch := first | omega | decide) only [go_sem, f0, f1, f2, opn_cond]; rfl) | exact want_of_cond (d := 102) rfl (by simp (disch := first | omega | decide) only [go_sem, f0, f1, f2, opn_cond]; rfl))
          · intro hc K hK
            have hc2 := hc
            simp only [beq_iff_eq, decide_eq_true_eq, decide_eq_false_iff_not, Bool.or_eq_true, Bool.and_eq_true, Bool.or_eq_false_iff, Bool.and_eq_false_iff] at hc2
            simp (disch := first | omega | decide) only [go_sem, f0, f1, f2, opn_cond, hc, if_true, act_fieldAddr_t fo33_2]
            first | rw [mwp_fieldAddr_b (by simp (disch := first | omega | decide) only [go_sem, f0, f1, f2, opn_cond, hc, if_true]; rfl)] | skip
            exact hK _
          apply aops_merge' (by decide) (by first | exact want_of (d := 102) rfl (by simp (disch := first | omega | decide) only [go_sem, f0, f1, f2, opn_cond]; rfl) | exact want_of_cond (d := 102) rfl (by simp (disch := first | omega | decide) only [go_sem, f0, f1, f2, opn_cond]; rfl))
          · intro hc K hK
            have hc2 := hc
            simp only [beq_iff_eq, decide_eq_true_eq, decide_eq_false_iff_not, Bool.or_eq_true, Bool.and_eq_true, Bool.or_eq_false_iff, Bool.and_eq_false_iff] at hc2
            simp (disch := first | omega | decide) only [go_sem, f0, f1, f2, opn_cond, hc, if_true, act_load_t ti3]
            first | rw [mwp_load_bs (by simp (disch := first | omega | decide) only [go_sem, f0, f1, f2, opn_cond, hc, if_true]; rfl) (by simp)] | rw [mwp_load_b1 (by simp (disch := first | omega | decide) only [go_sem, f0, f1, f2, opn_cond, hc, if_true]; rfl) (by rfl)] | rw [mwp_aLoad_map (by simp (disch := first | omega | decide) only [go_sem, f0, f1, f2, opn_cond, hc, if_true]; rfl) (by first | omega | (simp; omega)) (fun _ => rfl)] | rw [mwp_aLoad_e1 (by simp (disch := first | omega | decide) only [go_sem, f0, f1, f2, opn_cond, hc, if_true]; rfl) (by simp) rfl] | skip
            exact hK _
          apply aops_merge' (by decide) (by first | exact want_of (d := 102) rfl (by simp (disch := first | omega | decide) only [go_sem, f0, f1, f2, opn_cond]; rfl) | exact want_of_cond (d := 102) rfl (by simp (disch := first | omega | decide) only [go_sem, f0, f1, f2, opn_cond]; rfl))
          · intro hc K hK
            have hc2 := hc
            simp only [beq_iff_eq, decide_eq_true_eq, decide_eq_false_iff_not, Bool.or_eq_true, Bool.and_eq_true, Bool.or_eq_false_iff, Bool.and_eq_false_iff] at hc2
            simp (disch := first | omega | decide) only [go_sem, f0, f1, f2, opn_cond, hc, if_true]
            exact hK _
          iterate 1 (apply aops_step (by decide) rfl; · (intro K hK; simp (disch := first | omega | decide) only [go_sem, f0, f1, f2]; exact hK _))
          refine aops_nil ?_
          apply AW.cond
          · simp (disch := first | omega | decide) only [go_sem, f0, f1, f2]; rfl
          case ht =>
            intro hb
            try simp only [Bool.or_eq_true, Bool.and_eq_true, Bool.or_eq_false_iff, Bool.and_eq_false_iff, decide_eq_true_eq, decide_eq_false_iff_not] at hb
            refine AW.seq ?_
            refine AW.region (cfg := cfg) ?_
            iterate 3 (apply aops_step (by decide) rfl; · (intro K hK; simp (disch := first | omega | decide) only [go_sem, f0, f1, f2]; exact hK _))
            apply aops_merge' (by decide) (by first | exact want_of (d := 110) rfl (by simp (disch := first | omega | decide) only [go_sem, f0, f1, f2, opn_cond]; rfl) | exact want_of_cond (d := 110) rfl (by simp (disch := first | omega | decide) only [go_sem, f0, f1, f2, opn_cond]; rfl))
            · intro hc K hK
              have hc2 := hc
              simp only [beq_iff_eq, decide_eq_true_eq, decide_eq_false_iff_not, Bool.or_eq_true, Bool.and_eq_true, Bool.or_eq_false_iff, Bool.and_eq_false_iff] at hc2
              simp (disch := first | omega | decide) only [go_sem, f0, f1, f2, opn_cond, hc, if_true, act_call, List.map]
              apply mwp_call_s rfl rfl rfl
              · intro Q hQ
                simp (disch := first | omega | decide) only [go_sem, f0, f1, f2, opn_cond, hc, if_true, peekL]
                first | exact hQ | (rw [peek_own (by simp (disch := first | omega | decide) only [go_sem, f0, f1, f2, peekL]; rfl)]; exact hQ) | (rw [peek_own (by simp (disch := first | omega | decide) only [go_sem, f0, f1, f2, peekL]; rfl)]; simp (disch := first | omega | decide) only [go_sem, f0, f1, f2, peekL]; rw [peek_own (by simp (disch := first | omega | decide) only [go_sem, f0, f1, f2, peekL]; rfl)]; exact hQ) | (rw [peek_own (by simp (disch := first | omega | decide) only [go_sem, f0, f1, f2, peekL]; rfl)]; simp (disch := first | omega | decide) only [go_sem, f0, f1, f2, peekL]; exact hQ)
              · exact good_awake
              · simp [-List.map_take, -List.map_drop, noPtrL, noPtr, noPtrL_bsl, noPtrL_map, sub]
              · rfl
              · exact hK _
            iterate 2 (apply aops_step (by decide) rfl; · (intro K hK; simp (disch := first | omega | decide) only [go_sem, f0, f1, f2]; exact hK _))
            refine aops_nil ?_
            refine AW.ret ?_
            refine ⟨.inr rfl, ?_⟩
            refine leaves_tmp1 6 rfl ?_ (by first | rfl | exact hG)
            simp (disch := first | omega | decide) only [go_sem, f0, f1, f2]
            clear hr hv hG f0 f1 f2
            have hM := refMay_may a b c
            have q0 := e_no (n := n)
            have q1 := e_ok (n := n)
            have q2 := fun h => slot_no (a := a) (b := b) (c := c) h gen i
            have q3 := slot_neg (a := a) (b := b) (c := c) (gen := gen)
            have q4 := slot_is (a := a) (b := b) (c := c) (gen := gen)
            have q5 := at_no (a := a) (b := b) (c := c) (i := i)
            have q6 := at_is (a := a) (b := b) (c := c) (i := i)
            cases hmp : mayP a b c <;> first | grind | (simp_all; done) | trace_state
          case hf =>
            intro hb
            try simp only [Bool.or_eq_true, Bool.and_eq_true, Bool.or_eq_false_iff, Bool.and_eq_false_iff, decide_eq_true_eq, decide_eq_false_iff_not] at hb
            refine AW.skip ?_
            refine AW.seq ?_
            refine AW.region (cfg := cfg) ?_
            iterate 1 (apply aops_step (by decide) rfl; · (intro K hK; simp (disch := first | omega | decide) only [go_sem, f0, f1, f2]; exact hK _))
            apply aops_step (by decide) rfl
            · intro K hK
              simp (disch := first | omega | decide) only [go_sem, f0, f1, f2, act_fieldAddr_t fo33_1, List.map]
              first | rw [mwp_fieldAddr_b (by simp (disch := first | omega | decide) only [go_sem, f0, f1, f2]; rfl)] | skip
              exact hK _
            apply aops_step (by decide) rfl
            · intro K hK
              simp (disch := first | omega | decide) only [go_sem, f0, f1, f2, act_load_t ti3, List.map]
              first | rw [mwp_load_bs (by simp (disch := first | omega | decide) only [go_sem, f0, f1, f2]; rfl) (by simp)] | rw [mwp_load_b1 (by simp (disch := first | omega | decide) only [go_sem, f0, f1, f2]; rfl) (by rfl)] | rw [mwp_aLoad_map (by simp (disch := first | omega | decide) only [go_sem, f0, f1, f2]; rfl) (by first | omega | (simp; omega)) (fun _ => rfl)] | rw [mwp_aLoad_e1 (by simp (disch := first | omega | decide) only [go_sem, f0, f1, f2]; rfl) (by simp) rfl] | skip
              exact hK _
            iterate 4 (apply aops_step (by decide) rfl; · (intro K hK; simp (disch := first | omega | decide) only [go_sem, f0, f1, f2]; exact hK _))
            apply aops_merge' (by decide) (by first | exact want_of (d := 119) rfl (by simp (disch := first | omega | decide) only [go_sem, f0, f1, f2, opn_cond]; rfl) | exact want_of_cond (d := 119) rfl (by simp (disch := first | omega | decide) only [go_sem, f0, f1, f2, opn_cond]; rfl))
            · intro hc K hK
              have hc2 := hc
              simp only [beq_iff_eq, decide_eq_true_eq, decide_eq_false_iff_not, Bool.or_eq_true, Bool.and_eq_true, Bool.or_eq_false_iff, Bool.and_eq_false_iff] at hc2
              simp (disch := first | omega | decide) only [go_sem, f0, f1, f2, opn_cond, hc, if_true, act_call, List.map]
              apply mwp_call_s rfl rfl rfl
              · intro Q hQ
                simp (disch := first | omega | decide) only [go_sem, f0, f1, f2, opn_cond, hc, if_true, peekL]
                first | exact hQ | (rw [peek_own (by simp (disch := first | omega | decide) only [go_sem, f0, f1, f2, peekL]; rfl)]; exact hQ) | (rw [peek_own (by simp (disch := first | omega | decide) only [go_sem, f0, f1, f2, peekL]; rfl)]; simp (disch := first | omega | decide) only [go_sem, f0, f1, f2, peekL]; rw [peek_own (by simp (disch := first | omega | decide) only [go_sem, f0, f1, f2, peekL]; rfl)]; exact hQ) | (rw [peek_own (by simp (disch := first | omega | decide) only [go_sem, f0, f1, f2, peekL]; rfl)]; simp (disch := first | omega | decide) only [go_sem, f0, f1, f2, peekL]; exact hQ)
              · exact good_awake
              · simp [-List.map_take, -List.map_drop, noPtrL, noPtr, noPtrL_bsl, noPtrL_map, sub]
              · rfl
              · exact hK _
            iterate 2 (apply aops_step (by decide) rfl; · (intro K hK; simp (disch := first | omega | decide) only [go_sem, f0, f1, f2]; exact hK _))
            refine aops_nil ?_
            refine AW.ret ?_
            refine ⟨.inr rfl, ?_⟩
            refine leaves_tmp1 6 rfl ?_ (by first | rfl | exact hG)
            simp (disch := first | omega | decide) only [go_sem, f0, f1, f2]
            clear hr hv hG f0 f1 f2
            have hM := refMay_may a b c
            have q0 := e_no (n := n)
            have q1 := e_ok (n := n)
            have q2 := fun h => slot_no (a := a) (b := b) (c := c) h gen i
            have q3 := slot_neg (a := a) (b := b) (c := c) (gen := gen)
            have q4 := slot_is (a := a) (b := b) (c := c) (gen := gen)
            have q5 := at_no (a := a) (b := b) (c := c) (i := i)
            have q6 := at_is (a := a) (b := b) (c := c) (i := i)
            cases hmp : mayP a b c <;> first | grind | (simp_all; done) | trace_state

end Go.Vai.V
