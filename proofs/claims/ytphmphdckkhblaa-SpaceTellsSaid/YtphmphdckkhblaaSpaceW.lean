import Derived.Test.YtphmphdckkhblaaProg
import Derived.Test.YtphmphdckkhblaaVaiC
namespace Go.Vai.S
open Go.Proofs Go.Vai
set_option linter.unusedSimpArgs false
set_option linter.unusedVariables false
theorem ti56 : tiOf Try.prog 56 = some ⟨2, 16, [.base (.int .i64 0), .base (.int .i64 0)], true⟩ := by kernel_rfl
theorem fo56_1 : fieldOf Try.prog 56 1 = some (1, 1) := by kernel_rfl
theorem ti3 : tiOf Try.prog 3 = some ⟨1, 8, [.base (.int .i64 0)], false⟩ := by kernel_rfl
theorem fo56_0 : fieldOf Try.prog 56 0 = some (0, 1) := by kernel_rfl
theorem pl56 : placesOf Try.prog 56 = some [(0, 1), (1, 1)] := by kernel_rfl

def cfg : Cfg := ⟨fun _ => true, fun _ => false, fun f => !([32, 33, 34, 35].contains f)⟩
def mayS (x u : Int) : Bool := (((decide (u ≥ 0) && decide (u ≤ 4611686018427387904)) && decide (x ≥ 1)) && decide (x - 1 ≤ u))
def aBad (u : Int) : Bool := decide (u < 0) || decide (u > 4611686018427387904)
def aN (u : Int) : Int := if aBad u then 0 else u + 1
def aU (u : Int) : Int := if aBad u then 0 else u
def aE (u : Int) : Int := if aBad u then 1 else 0
def tV (x u : Int) : Int := if mayS x u then if x > u then 0 else x else 0
def tN (x u : Int) : Int := if mayS x u then if x > u then 0 else x + 1 else 0
def tU (x u : Int) : Int := if mayS x u then if x > u then 0 else u else 0
def tE (x u : Int) : Int := if mayS x u then if x > u then 3 else 0 else 1
def wV (x u : Int) : Int := if mayS x u then if x > 4611686018427387904 then 0 else min (x + 7) 4611686018427387904 else 0
def wE (x u : Int) : Int := if mayS x u then if x > 4611686018427387904 then 9 else 0 else 1
def gBad (x u k : Int) : Bool := ((!mayS x u) || decide (k ≤ u)) || decide (k > 4611686018427387904)
def gN (x u k : Int) : Int := if gBad x u k then 0 else x
def gU (x u k : Int) : Int := if gBad x u k then 0 else k
def gE (x u k : Int) : Int := if gBad x u k then 1 else 0
def rW (x : Int) : Int := if x > 4611686018427387904 then 0 else min (x + 7) 4611686018427387904
theorem mayS_range {x u : Int} (h : mayS x u = true) : 0 ≤ u ∧ u ≤ 4611686018427387904 ∧ 1 ≤ x ∧ x - 1 ≤ u := by
  simp only [mayS, Bool.and_eq_true, decide_eq_true_eq] at h; omega

set_option maxHeartbeats 4000000 in
set_option maxRecDepth 100000 in
theorem good_may (x u : Int) (hx : -9223372036854775808 ≤ x ∧ x ≤ 9223372036854775807) (hu : -9223372036854775808 ≤ u ∧ u ≤ 9223372036854775807) : Good Try.prog 64 [(.agg [i64 x, i64 u], false)] [] [(.b (mayS x u), false)] [] := by
  refine good_of_body2 24 Try.func64 rfl rfl rfl (by simp) ?_
  intro s m ha hr hv hG
  have f0 : s 0 = .v (.agg [i64 x, i64 u]) := ha 0 _ rfl
  clear ha
  refine AW.seq ?_
  refine AW.region (cfg := cfg) ?_
  apply aops_step (by decide) rfl
  · intro K hK
    simp (disch := first | omega | decide) only [go_sem, f0, act_box_t ti56, List.map]
    rw [settleL_vish _ _ (by rfl)]
    simp (disch := first | omega | decide) only [go_sem, f0, cellsL, List.map, List.length_cons, List.length_nil, Nat.reduceAdd, if_true]
    exact hK _
  iterate 1 (apply aops_step (by decide) rfl; · (intro K hK; simp (disch := first | omega | decide) only [go_sem, f0]; exact hK _))
  refine aops_nil ?_
  refine AW.seq ?_
  refine AW.region (cfg := cfg) ?_
  apply aops_step (by decide) rfl
  · intro K hK
    simp (disch := first | omega | decide) only [go_sem, f0, act_fieldAddr_t fo56_1, List.map]
    first | rw [mwp_fieldAddr_b (by simp (disch := first | omega | decide) only [go_sem, f0]; rfl)] | skip
    exact hK _
  apply aops_step (by decide) rfl
  · intro K hK
    simp (disch := first | omega | decide) only [go_sem, f0, act_load_t ti3, List.map]
    first | rw [mwp_load_bs (by simp (disch := first | omega | decide) only [go_sem, f0]; rfl) (by simp)] | rw [mwp_load_b1 (by simp (disch := first | omega | decide) only [go_sem, f0]; rfl) (by rfl)] | rw [mwp_aLoad_map (by simp (disch := first | omega | decide) only [go_sem, f0]; rfl) (by first | omega | (simp; omega)) (fun _ => rfl)] | rw [mwp_aLoad_e1 (by simp (disch := first | omega | decide) only [go_sem, f0]; rfl) (by simp) rfl] | skip
    exact hK _
  iterate 2 (apply aops_step (by decide) rfl; · (intro K hK; simp (disch := first | omega | decide) only [go_sem, f0]; exact hK _))
  apply aops_merge' (by decide) (by first | exact want_of (d := 6) rfl (by simp (disch := first | omega | decide) only [go_sem, f0, opn_cond]; rfl) | exact want_of_cond (d := 6) rfl (by simp (disch := first | omega | decide) only [go_sem, f0, opn_cond]; rfl))
  · intro hc K hK
    have hc2 := hc
    simp only [beq_iff_eq, decide_eq_true_eq, decide_eq_false_iff_not, Bool.or_eq_true, Bool.and_eq_true, Bool.or_eq_false_iff, Bool.and_eq_false_iff] at hc2
    simp (disch := first | omega | decide) only [go_sem, f0, opn_cond, hc, if_true, act_fieldAddr_t fo56_1]
    first | rw [mwp_fieldAddr_b (by simp (disch := first | omega | decide) only [go_sem, f0, opn_cond, hc, if_true]; rfl)] | skip
    exact hK _
  apply aops_merge' (by decide) (by first | exact want_of (d := 6) rfl (by simp (disch := first | omega | decide) only [go_sem, f0, opn_cond]; rfl) | exact want_of_cond (d := 6) rfl (by simp (disch := first | omega | decide) only [go_sem, f0, opn_cond]; rfl))
  · intro hc K hK
    have hc2 := hc
    simp only [beq_iff_eq, decide_eq_true_eq, decide_eq_false_iff_not, Bool.or_eq_true, Bool.and_eq_true, Bool.or_eq_false_iff, Bool.and_eq_false_iff] at hc2
    simp (disch := first | omega | decide) only [go_sem, f0, opn_cond, hc, if_true, act_load_t ti3]
    first | rw [mwp_load_bs (by simp (disch := first | omega | decide) only [go_sem, f0, opn_cond, hc, if_true]; rfl) (by simp)] | rw [mwp_load_b1 (by simp (disch := first | omega | decide) only [go_sem, f0, opn_cond, hc, if_true]; rfl) (by rfl)] | rw [mwp_aLoad_map (by simp (disch := first | omega | decide) only [go_sem, f0, opn_cond, hc, if_true]; rfl) (by first | omega | (simp; omega)) (fun _ => rfl)] | rw [mwp_aLoad_e1 (by simp (disch := first | omega | decide) only [go_sem, f0, opn_cond, hc, if_true]; rfl) (by simp) rfl] | skip
    exact hK _
  apply aops_merge' (by decide) (by first | exact want_of (d := 6) rfl (by simp (disch := first | omega | decide) only [go_sem, f0, opn_cond]; rfl) | exact want_of_cond (d := 6) rfl (by simp (disch := first | omega | decide) only [go_sem, f0, opn_cond]; rfl))
  · intro hc K hK
    have hc2 := hc
    simp only [beq_iff_eq, decide_eq_true_eq, decide_eq_false_iff_not, Bool.or_eq_true, Bool.and_eq_true, Bool.or_eq_false_iff, Bool.and_eq_false_iff] at hc2
    simp (disch := first | omega | decide) only [go_sem, f0, opn_cond, hc, if_true]
    exact hK _
  iterate 2 (apply aops_step (by decide) rfl; · (intro K hK; simp (disch := first | omega | decide) only [go_sem, f0]; exact hK _))
  apply aops_merge' (by decide) (by first | exact want_of (d := 11) rfl (by simp (disch := first | omega | decide) only [go_sem, f0, opn_cond]; rfl) | exact want_of_cond (d := 11) rfl (by simp (disch := first | omega | decide) only [go_sem, f0, opn_cond]; rfl))
  · intro hc K hK
    have hc2 := hc
    simp only [beq_iff_eq, decide_eq_true_eq, decide_eq_false_iff_not, Bool.or_eq_true, Bool.and_eq_true, Bool.or_eq_false_iff, Bool.and_eq_false_iff] at hc2
    simp (disch := first | omega | decide) only [go_sem, f0, opn_cond, hc, if_true, act_fieldAddr_t fo56_0]
    first | rw [mwp_fieldAddr_b (by simp (disch := first | omega | decide) only [go_sem, f0, opn_cond, hc, if_true]; rfl)] | skip
    exact hK _
  apply aops_merge' (by decide) (by first | exact want_of (d := 11) rfl (by simp (disch := first | omega | decide) only [go_sem, f0, opn_cond]; rfl) | exact want_of_cond (d := 11) rfl (by simp (disch := first | omega | decide) only [go_sem, f0, opn_cond]; rfl))
  · intro hc K hK
    have hc2 := hc
    simp only [beq_iff_eq, decide_eq_true_eq, decide_eq_false_iff_not, Bool.or_eq_true, Bool.and_eq_true, Bool.or_eq_false_iff, Bool.and_eq_false_iff] at hc2
    simp (disch := first | omega | decide) only [go_sem, f0, opn_cond, hc, if_true, act_load_t ti3]
    first | rw [mwp_load_bs (by simp (disch := first | omega | decide) only [go_sem, f0, opn_cond, hc, if_true]; rfl) (by simp)] | rw [mwp_load_b1 (by simp (disch := first | omega | decide) only [go_sem, f0, opn_cond, hc, if_true]; rfl) (by rfl)] | rw [mwp_aLoad_map (by simp (disch := first | omega | decide) only [go_sem, f0, opn_cond, hc, if_true]; rfl) (by first | omega | (simp; omega)) (fun _ => rfl)] | rw [mwp_aLoad_e1 (by simp (disch := first | omega | decide) only [go_sem, f0, opn_cond, hc, if_true]; rfl) (by simp) rfl] | skip
    exact hK _
  apply aops_merge' (by decide) (by first | exact want_of (d := 11) rfl (by simp (disch := first | omega | decide) only [go_sem, f0, opn_cond]; rfl) | exact want_of_cond (d := 11) rfl (by simp (disch := first | omega | decide) only [go_sem, f0, opn_cond]; rfl))
  · intro hc K hK
    have hc2 := hc
    simp only [beq_iff_eq, decide_eq_true_eq, decide_eq_false_iff_not, Bool.or_eq_true, Bool.and_eq_true, Bool.or_eq_false_iff, Bool.and_eq_false_iff] at hc2
    simp (disch := first | omega | decide) only [go_sem, f0, opn_cond, hc, if_true]
    exact hK _
  iterate 2 (apply aops_step (by decide) rfl; · (intro K hK; simp (disch := first | omega | decide) only [go_sem, f0]; exact hK _))
  apply aops_merge' (by decide) (by first | exact want_of (d := 16) rfl (by simp (disch := first | omega | decide) only [go_sem, f0, opn_cond]; rfl) | exact want_of_cond (d := 16) rfl (by simp (disch := first | omega | decide) only [go_sem, f0, opn_cond]; rfl))
  · intro hc K hK
    have hc2 := hc
    simp only [beq_iff_eq, decide_eq_true_eq, decide_eq_false_iff_not, Bool.or_eq_true, Bool.and_eq_true, Bool.or_eq_false_iff, Bool.and_eq_false_iff] at hc2
    simp (disch := first | omega | decide) only [go_sem, f0, opn_cond, hc, if_true, act_fieldAddr_t fo56_0]
    first | rw [mwp_fieldAddr_b (by simp (disch := first | omega | decide) only [go_sem, f0, opn_cond, hc, if_true]; rfl)] | skip
    exact hK _
  apply aops_merge' (by decide) (by first | exact want_of (d := 16) rfl (by simp (disch := first | omega | decide) only [go_sem, f0, opn_cond]; rfl) | exact want_of_cond (d := 16) rfl (by simp (disch := first | omega | decide) only [go_sem, f0, opn_cond]; rfl))
  · intro hc K hK
    have hc2 := hc
    simp only [beq_iff_eq, decide_eq_true_eq, decide_eq_false_iff_not, Bool.or_eq_true, Bool.and_eq_true, Bool.or_eq_false_iff, Bool.and_eq_false_iff] at hc2
    simp (disch := first | omega | decide) only [go_sem, f0, opn_cond, hc, if_true, act_load_t ti3]
    first | rw [mwp_load_bs (by simp (disch := first | omega | decide) only [go_sem, f0, opn_cond, hc, if_true]; rfl) (by simp)] | rw [mwp_load_b1 (by simp (disch := first | omega | decide) only [go_sem, f0, opn_cond, hc, if_true]; rfl) (by rfl)] | rw [mwp_aLoad_map (by simp (disch := first | omega | decide) only [go_sem, f0, opn_cond, hc, if_true]; rfl) (by first | omega | (simp; omega)) (fun _ => rfl)] | rw [mwp_aLoad_e1 (by simp (disch := first | omega | decide) only [go_sem, f0, opn_cond, hc, if_true]; rfl) (by simp) rfl] | skip
    exact hK _
  apply aops_merge' (by decide) (by first | exact want_of (d := 16) rfl (by simp (disch := first | omega | decide) only [go_sem, f0, opn_cond]; rfl) | exact want_of_cond (d := 16) rfl (by simp (disch := first | omega | decide) only [go_sem, f0, opn_cond]; rfl))
  · intro hc K hK
    have hc2 := hc
    simp only [beq_iff_eq, decide_eq_true_eq, decide_eq_false_iff_not, Bool.or_eq_true, Bool.and_eq_true, Bool.or_eq_false_iff, Bool.and_eq_false_iff] at hc2
    simp (disch := first | omega | decide) only [go_sem, f0, opn_cond, hc, if_true]
    exact hK _
  apply aops_merge' (by decide) (by first | exact want_of (d := 16) rfl (by simp (disch := first | omega | decide) only [go_sem, f0, opn_cond]; rfl) | exact want_of_cond (d := 16) rfl (by simp (disch := first | omega | decide) only [go_sem, f0, opn_cond]; rfl))
  · intro hc K hK
    have hc2 := hc
    simp only [beq_iff_eq, decide_eq_true_eq, decide_eq_false_iff_not, Bool.or_eq_true, Bool.and_eq_true, Bool.or_eq_false_iff, Bool.and_eq_false_iff] at hc2
    simp (disch := first | omega | decide) only [go_sem, f0, opn_cond, hc, if_true, act_fieldAddr_t fo56_1]
    first | rw [mwp_fieldAddr_b (by simp (disch := first | omega | decide) only [go_sem, f0, opn_cond, hc, if_true]; rfl)] | skip
    exact hK _
  apply aops_merge' (by decide) (by first | exact want_of (d := 16) rfl (by simp (disch := first | omega | decide) only [go_sem, f0, opn_cond]; rfl) | exact want_of_cond (d := 16) rfl (by simp (disch := first | omega | decide) only [go_sem, f0, opn_cond]; rfl))
  · intro hc K hK
    have hc2 := hc
    simp only [beq_iff_eq, decide_eq_true_eq, decide_eq_false_iff_not, Bool.or_eq_true, Bool.and_eq_true, Bool.or_eq_false_iff, Bool.and_eq_false_iff] at hc2
    simp (disch := first | omega | decide) only [go_sem, f0, opn_cond, hc, if_true, act_load_t ti3]
    first | rw [mwp_load_bs (by simp (disch := first | omega | decide) only [go_sem, f0, opn_cond, hc, if_true]; rfl) (by simp)] | rw [mwp_load_b1 (by simp (disch := first | omega | decide) only [go_sem, f0, opn_cond, hc, if_true]; rfl) (by rfl)] | rw [mwp_aLoad_map (by simp (disch := first | omega | decide) only [go_sem, f0, opn_cond, hc, if_true]; rfl) (by first | omega | (simp; omega)) (fun _ => rfl)] | rw [mwp_aLoad_e1 (by simp (disch := first | omega | decide) only [go_sem, f0, opn_cond, hc, if_true]; rfl) (by simp) rfl] | skip
    exact hK _
  apply aops_merge' (by decide) (by first | exact want_of (d := 16) rfl (by simp (disch := first | omega | decide) only [go_sem, f0, opn_cond]; rfl) | exact want_of_cond (d := 16) rfl (by simp (disch := first | omega | decide) only [go_sem, f0, opn_cond]; rfl))
  · intro hc K hK
    have hc2 := hc
    simp only [beq_iff_eq, decide_eq_true_eq, decide_eq_false_iff_not, Bool.or_eq_true, Bool.and_eq_true, Bool.or_eq_false_iff, Bool.and_eq_false_iff] at hc2
    simp (disch := first | omega | decide) only [go_sem, f0, opn_cond, hc, if_true]
    exact hK _
  iterate 2 (apply aops_step (by decide) rfl; · (intro K hK; simp (disch := first | omega | decide) only [go_sem, f0]; exact hK _))
  refine aops_nil ?_
  refine AW.ret ?_
  refine ⟨.inr rfl, ?_⟩
  refine leaves_mwp2 (rs := [.tmp 2]) rfl ?_
  simp (config := {failIfUnchanged := false}) [giveL, srcOne, upd, opn, aLoad, loadL, giveOne, reify, reifyL, readL, readOne, Mwp, M.bind, Mem.set, setAt, cellsL, hG, f0, mayS]
  all_goals first | done | omega | (simp_all; done) | (simp_all; omega) | grind

set_option maxHeartbeats 4000000 in
set_option maxRecDepth 100000 in
theorem good_refMay (x u : Int) (hx : -9223372036854775808 ≤ x ∧ x ≤ 9223372036854775807) (hu : -9223372036854775808 ≤ u ∧ u ≤ 9223372036854775807) : Good Try.prog 36 [(.agg [i64 x, i64 u], false)] [] [(.b (mayS x u), false)] [] := by
  refine good_of_body2 24 Try.func36 rfl rfl rfl (by simp) ?_
  intro s m ha hr hv hG
  have f0 : s 0 = .v (.agg [i64 x, i64 u]) := ha 0 _ rfl
  clear ha
  refine AW.seq ?_
  refine AW.region (cfg := cfg) ?_
  apply aops_step (by decide) rfl
  · intro K hK
    simp (disch := first | omega | decide) only [go_sem, f0, act_box_t ti56, List.map]
    rw [settleL_vish _ _ (by rfl)]
    simp (disch := first | omega | decide) only [go_sem, f0, cellsL, List.map, List.length_cons, List.length_nil, Nat.reduceAdd, if_true]
    exact hK _
  iterate 1 (apply aops_step (by decide) rfl; · (intro K hK; simp (disch := first | omega | decide) only [go_sem, f0]; exact hK _))
  refine aops_nil ?_
  refine AW.seq ?_
  refine AW.region (cfg := cfg) ?_
  apply aops_step (by decide) rfl
  · intro K hK
    simp (disch := first | omega | decide) only [go_sem, f0, act_fieldAddr_t fo56_1, List.map]
    first | rw [mwp_fieldAddr_b (by simp (disch := first | omega | decide) only [go_sem, f0]; rfl)] | skip
    exact hK _
  apply aops_step (by decide) rfl
  · intro K hK
    simp (disch := first | omega | decide) only [go_sem, f0, act_load_t ti3, List.map]
    first | rw [mwp_load_bs (by simp (disch := first | omega | decide) only [go_sem, f0]; rfl) (by simp)] | rw [mwp_load_b1 (by simp (disch := first | omega | decide) only [go_sem, f0]; rfl) (by rfl)] | rw [mwp_aLoad_map (by simp (disch := first | omega | decide) only [go_sem, f0]; rfl) (by first | omega | (simp; omega)) (fun _ => rfl)] | rw [mwp_aLoad_e1 (by simp (disch := first | omega | decide) only [go_sem, f0]; rfl) (by simp) rfl] | skip
    exact hK _
  iterate 2 (apply aops_step (by decide) rfl; · (intro K hK; simp (disch := first | omega | decide) only [go_sem, f0]; exact hK _))
  apply aops_merge' (by decide) (by first | exact want_of (d := 6) rfl (by simp (disch := first | omega | decide) only [go_sem, f0, opn_cond]; rfl) | exact want_of_cond (d := 6) rfl (by simp (disch := first | omega | decide) only [go_sem, f0, opn_cond]; rfl))
  · intro hc K hK
    have hc2 := hc
    simp only [beq_iff_eq, decide_eq_true_eq, decide_eq_false_iff_not, Bool.or_eq_true, Bool.and_eq_true, Bool.or_eq_false_iff, Bool.and_eq_false_iff] at hc2
    simp (disch := first | omega | decide) only [go_sem, f0, opn_cond, hc, if_true, act_fieldAddr_t fo56_1]
    first | rw [mwp_fieldAddr_b (by simp (disch := first | omega | decide) only [go_sem, f0, opn_cond, hc, if_true]; rfl)] | skip
    exact hK _
  apply aops_merge' (by decide) (by first | exact want_of (d := 6) rfl (by simp (disch := first | omega | decide) only [go_sem, f0, opn_cond]; rfl) | exact want_of_cond (d := 6) rfl (by simp (disch := first | omega | decide) only [go_sem, f0, opn_cond]; rfl))
  · intro hc K hK
    have hc2 := hc
    simp only [beq_iff_eq, decide_eq_true_eq, decide_eq_false_iff_not, Bool.or_eq_true, Bool.and_eq_true, Bool.or_eq_false_iff, Bool.and_eq_false_iff] at hc2
    simp (disch := first | omega | decide) only [go_sem, f0, opn_cond, hc, if_true, act_load_t ti3]
    first | rw [mwp_load_bs (by simp (disch := first | omega | decide) only [go_sem, f0, opn_cond, hc, if_true]; rfl) (by simp)] | rw [mwp_load_b1 (by simp (disch := first | omega | decide) only [go_sem, f0, opn_cond, hc, if_true]; rfl) (by rfl)] | rw [mwp_aLoad_map (by simp (disch := first | omega | decide) only [go_sem, f0, opn_cond, hc, if_true]; rfl) (by first | omega | (simp; omega)) (fun _ => rfl)] | rw [mwp_aLoad_e1 (by simp (disch := first | omega | decide) only [go_sem, f0, opn_cond, hc, if_true]; rfl) (by simp) rfl] | skip
    exact hK _
  apply aops_merge' (by decide) (by first | exact want_of (d := 6) rfl (by simp (disch := first | omega | decide) only [go_sem, f0, opn_cond]; rfl) | exact want_of_cond (d := 6) rfl (by simp (disch := first | omega | decide) only [go_sem, f0, opn_cond]; rfl))
  · intro hc K hK
    have hc2 := hc
    simp only [beq_iff_eq, decide_eq_true_eq, decide_eq_false_iff_not, Bool.or_eq_true, Bool.and_eq_true, Bool.or_eq_false_iff, Bool.and_eq_false_iff] at hc2
    simp (disch := first | omega | decide) only [go_sem, f0, opn_cond, hc, if_true]
    exact hK _
  iterate 2 (apply aops_step (by decide) rfl; · (intro K hK; simp (disch := first | omega | decide) only [go_sem, f0]; exact hK _))
  apply aops_merge' (by decide) (by first | exact want_of (d := 11) rfl (by simp (disch := first | omega | decide) only [go_sem, f0, opn_cond]; rfl) | exact want_of_cond (d := 11) rfl (by simp (disch := first | omega | decide) only [go_sem, f0, opn_cond]; rfl))
  · intro hc K hK
    have hc2 := hc
    simp only [beq_iff_eq, decide_eq_true_eq, decide_eq_false_iff_not, Bool.or_eq_true, Bool.and_eq_true, Bool.or_eq_false_iff, Bool.and_eq_false_iff] at hc2
    simp (disch := first | omega | decide) only [go_sem, f0, opn_cond, hc, if_true, act_fieldAddr_t fo56_0]
    first | rw [mwp_fieldAddr_b (by simp (disch := first | omega | decide) only [go_sem, f0, opn_cond, hc, if_true]; rfl)] | skip
    exact hK _
  apply aops_merge' (by decide) (by first | exact want_of (d := 11) rfl (by simp (disch := first | omega | decide) only [go_sem, f0, opn_cond]; rfl) | exact want_of_cond (d := 11) rfl (by simp (disch := first | omega | decide) only [go_sem, f0, opn_cond]; rfl))
  · intro hc K hK
    have hc2 := hc
    simp only [beq_iff_eq, decide_eq_true_eq, decide_eq_false_iff_not, Bool.or_eq_true, Bool.and_eq_true, Bool.or_eq_false_iff, Bool.and_eq_false_iff] at hc2
    simp (disch := first | omega | decide) only [go_sem, f0, opn_cond, hc, if_true, act_load_t ti3]
    first | rw [mwp_load_bs (by simp (disch := first | omega | decide) only [go_sem, f0, opn_cond, hc, if_true]; rfl) (by simp)] | rw [mwp_load_b1 (by simp (disch := first | omega | decide) only [go_sem, f0, opn_cond, hc, if_true]; rfl) (by rfl)] | rw [mwp_aLoad_map (by simp (disch := first | omega | decide) only [go_sem, f0, opn_cond, hc, if_true]; rfl) (by first | omega | (simp; omega)) (fun _ => rfl)] | rw [mwp_aLoad_e1 (by simp (disch := first | omega | decide) only [go_sem, f0, opn_cond, hc, if_true]; rfl) (by simp) rfl] | skip
    exact hK _
  apply aops_merge' (by decide) (by first | exact want_of (d := 11) rfl (by simp (disch := first | omega | decide) only [go_sem, f0, opn_cond]; rfl) | exact want_of_cond (d := 11) rfl (by simp (disch := first | omega | decide) only [go_sem, f0, opn_cond]; rfl))
  · intro hc K hK
    have hc2 := hc
    simp only [beq_iff_eq, decide_eq_true_eq, decide_eq_false_iff_not, Bool.or_eq_true, Bool.and_eq_true, Bool.or_eq_false_iff, Bool.and_eq_false_iff] at hc2
    simp (disch := first | omega | decide) only [go_sem, f0, opn_cond, hc, if_true]
    exact hK _
  iterate 2 (apply aops_step (by decide) rfl; · (intro K hK; simp (disch := first | omega | decide) only [go_sem, f0]; exact hK _))
  apply aops_merge' (by decide) (by first | exact want_of (d := 16) rfl (by simp (disch := first | omega | decide) only [go_sem, f0, opn_cond]; rfl) | exact want_of_cond (d := 16) rfl (by simp (disch := first | omega | decide) only [go_sem, f0, opn_cond]; rfl))
  · intro hc K hK
    have hc2 := hc
    simp only [beq_iff_eq, decide_eq_true_eq, decide_eq_false_iff_not, Bool.or_eq_true, Bool.and_eq_true, Bool.or_eq_false_iff, Bool.and_eq_false_iff] at hc2
    simp (disch := first | omega | decide) only [go_sem, f0, opn_cond, hc, if_true, act_fieldAddr_t fo56_0]
    first | rw [mwp_fieldAddr_b (by simp (disch := first | omega | decide) only [go_sem, f0, opn_cond, hc, if_true]; rfl)] | skip
    exact hK _
  apply aops_merge' (by decide) (by first | exact want_of (d := 16) rfl (by simp (disch := first | omega | decide) only [go_sem, f0, opn_cond]; rfl) | exact want_of_cond (d := 16) rfl (by simp (disch := first | omega | decide) only [go_sem, f0, opn_cond]; rfl))
  · intro hc K hK
    have hc2 := hc
    simp only [beq_iff_eq, decide_eq_true_eq, decide_eq_false_iff_not, Bool.or_eq_true, Bool.and_eq_true, Bool.or_eq_false_iff, Bool.and_eq_false_iff] at hc2
    simp (disch := first | omega | decide) only [go_sem, f0, opn_cond, hc, if_true, act_load_t ti3]
    first | rw [mwp_load_bs (by simp (disch := first | omega | decide) only [go_sem, f0, opn_cond, hc, if_true]; rfl) (by simp)] | rw [mwp_load_b1 (by simp (disch := first | omega | decide) only [go_sem, f0, opn_cond, hc, if_true]; rfl) (by rfl)] | rw [mwp_aLoad_map (by simp (disch := first | omega | decide) only [go_sem, f0, opn_cond, hc, if_true]; rfl) (by first | omega | (simp; omega)) (fun _ => rfl)] | rw [mwp_aLoad_e1 (by simp (disch := first | omega | decide) only [go_sem, f0, opn_cond, hc, if_true]; rfl) (by simp) rfl] | skip
    exact hK _
  apply aops_merge' (by decide) (by first | exact want_of (d := 16) rfl (by simp (disch := first | omega | decide) only [go_sem, f0, opn_cond]; rfl) | exact want_of_cond (d := 16) rfl (by simp (disch := first | omega | decide) only [go_sem, f0, opn_cond]; rfl))
  · intro hc K hK
    have hc2 := hc
    simp only [beq_iff_eq, decide_eq_true_eq, decide_eq_false_iff_not, Bool.or_eq_true, Bool.and_eq_true, Bool.or_eq_false_iff, Bool.and_eq_false_iff] at hc2
    simp (disch := first | omega | decide) only [go_sem, f0, opn_cond, hc, if_true, act_fieldAddr_t fo56_1]
    first | rw [mwp_fieldAddr_b (by simp (disch := first | omega | decide) only [go_sem, f0, opn_cond, hc, if_true]; rfl)] | skip
    exact hK _
  apply aops_merge' (by decide) (by first | exact want_of (d := 16) rfl (by simp (disch := first | omega | decide) only [go_sem, f0, opn_cond]; rfl) | exact want_of_cond (d := 16) rfl (by simp (disch := first | omega | decide) only [go_sem, f0, opn_cond]; rfl))
  · intro hc K hK
    have hc2 := hc
    simp only [beq_iff_eq, decide_eq_true_eq, decide_eq_false_iff_not, Bool.or_eq_true, Bool.and_eq_true, Bool.or_eq_false_iff, Bool.and_eq_false_iff] at hc2
    simp (disch := first | omega | decide) only [go_sem, f0, opn_cond, hc, if_true, act_load_t ti3]
    first | rw [mwp_load_bs (by simp (disch := first | omega | decide) only [go_sem, f0, opn_cond, hc, if_true]; rfl) (by simp)] | rw [mwp_load_b1 (by simp (disch := first | omega | decide) only [go_sem, f0, opn_cond, hc, if_true]; rfl) (by rfl)] | rw [mwp_aLoad_map (by simp (disch := first | omega | decide) only [go_sem, f0, opn_cond, hc, if_true]; rfl) (by first | omega | (simp; omega)) (fun _ => rfl)] | rw [mwp_aLoad_e1 (by simp (disch := first | omega | decide) only [go_sem, f0, opn_cond, hc, if_true]; rfl) (by simp) rfl] | skip
    exact hK _
  apply aops_merge' (by decide) (by first | exact want_of (d := 16) rfl (by simp (disch := first | omega | decide) only [go_sem, f0, opn_cond]; rfl) | exact want_of_cond (d := 16) rfl (by simp (disch := first | omega | decide) only [go_sem, f0, opn_cond]; rfl))
  · intro hc K hK
    have hc2 := hc
    simp only [beq_iff_eq, decide_eq_true_eq, decide_eq_false_iff_not, Bool.or_eq_true, Bool.and_eq_true, Bool.or_eq_false_iff, Bool.and_eq_false_iff] at hc2
    simp (disch := first | omega | decide) only [go_sem, f0, opn_cond, hc, if_true]
    exact hK _
  apply aops_merge' (by decide) (by first | exact want_of (d := 16) rfl (by simp (disch := first | omega | decide) only [go_sem, f0, opn_cond]; rfl) | exact want_of_cond (d := 16) rfl (by simp (disch := first | omega | decide) only [go_sem, f0, opn_cond]; rfl))
  · intro hc K hK
    have hc2 := hc
    simp only [beq_iff_eq, decide_eq_true_eq, decide_eq_false_iff_not, Bool.or_eq_true, Bool.and_eq_true, Bool.or_eq_false_iff, Bool.and_eq_false_iff] at hc2
    simp (disch := first | omega | decide) only [go_sem, f0, opn_cond, hc, if_true]
    exact hK _
  iterate 2 (apply aops_step (by decide) rfl; · (intro K hK; simp (disch := first | omega | decide) only [go_sem, f0]; exact hK _))
  refine aops_nil ?_
  refine AW.ret ?_
  refine ⟨.inr rfl, ?_⟩
  refine leaves_mwp2 (rs := [.tmp 2]) rfl ?_
  simp (config := {failIfUnchanged := false}) [giveL, srcOne, upd, opn, aLoad, loadL, giveOne, reify, reifyL, readL, readOne, Mwp, M.bind, Mem.set, setAt, cellsL, hG, f0, mayS]
  all_goals first | done | (rw [Bool.eq_iff_iff]; simp; omega) | trace_state

set_option maxHeartbeats 4000000 in
set_option maxRecDepth 100000 in
theorem good_After (u : Int) (hu : -9223372036854775808 ≤ u ∧ u ≤ 9223372036854775807) : Good Try.prog 32 [(i64 u, false)] [] [(.agg [i64 (aN u), i64 (aU u)], false), (i64 (aE u), false)] [] := by
  refine good_of_body2 15 Try.func32 rfl rfl rfl (by simp) ?_
  intro s m ha hr hv hG
  have f0 : s 0 = .v (i64 u) := ha 0 _ rfl
  clear ha
  refine AW.seq ?_
  refine AW.region (cfg := cfg) ?_
  apply aops_step (by decide) rfl
  · intro K hK
    simp (disch := first | omega | decide) only [go_sem, f0, act_alloc_t ti56, List.map]
    exact hK _
  iterate 1 (apply aops_step (by decide) rfl; · (intro K hK; simp (disch := first | omega | decide) only [go_sem, f0]; exact hK _))
  refine aops_nil ?_
  refine AW.seq ?_
  refine AW.seq ?_
  refine AW.region (cfg := cfg) ?_
  iterate 3 (apply aops_step (by decide) rfl; · (intro K hK; simp (disch := first | omega | decide) only [go_sem, f0]; exact hK _))
  apply aops_merge' (by decide) (by first | exact want_of (d := 6) rfl (by simp (disch := first | omega | decide) only [go_sem, f0, opn_cond]; rfl) | exact want_of_cond (d := 6) rfl (by simp (disch := first | omega | decide) only [go_sem, f0, opn_cond]; rfl))
  · intro hc K hK
    have hc2 := hc
    simp only [beq_iff_eq, decide_eq_true_eq, decide_eq_false_iff_not, Bool.or_eq_true, Bool.and_eq_true, Bool.or_eq_false_iff, Bool.and_eq_false_iff] at hc2
    simp (disch := first | omega | decide) only [go_sem, f0, opn_cond, hc, if_true]
    exact hK _
  apply aops_merge' (by decide) (by first | exact want_of (d := 6) rfl (by simp (disch := first | omega | decide) only [go_sem, f0, opn_cond]; rfl) | exact want_of_cond (d := 6) rfl (by simp (disch := first | omega | decide) only [go_sem, f0, opn_cond]; rfl))
  · intro hc K hK
    have hc2 := hc
    simp only [beq_iff_eq, decide_eq_true_eq, decide_eq_false_iff_not, Bool.or_eq_true, Bool.and_eq_true, Bool.or_eq_false_iff, Bool.and_eq_false_iff] at hc2
    simp (disch := first | omega | decide) only [go_sem, f0, opn_cond, hc, if_true]
    exact hK _
  iterate 1 (apply aops_step (by decide) rfl; · (intro K hK; simp (disch := first | omega | decide) only [go_sem, f0]; exact hK _))
  refine aops_nil ?_
  apply AW.cond
  · simp (disch := first | omega | decide) only [go_sem, f0]; rfl
  case ht =>
    intro hb
    try simp only [Bool.or_eq_true, Bool.and_eq_true, Bool.or_eq_false_iff, Bool.and_eq_false_iff, decide_eq_true_eq, decide_eq_false_iff_not] at hb
    have hbt9 := hb
    refine AW.seq ?_
    refine AW.region (cfg := cfg) ?_
    apply aops_step (by decide) rfl
    · intro K hK
      simp (disch := first | omega | decide) only [go_sem, f0, act_build_t ti56 pl56, List.map]
      simp [-List.map_take, -List.map_drop, fillL, okOne, cellishAV, Value.oneCell', cellsL, cellsOf, setAt, M.bind, Mwp]
      exact hK _
    apply aops_step0 rfl
    · intro K hK
      simp (disch := first | omega | decide) only [go_sem, f0, act_store_t ti56, List.map]
      first | rw [mwp_store_c (by simp (disch := first | omega | decide) only [go_sem, f0]; rfl) (by rfl) (by rfl) (by rfl) (by simp)] | rw [mwp_aStore_map (by simp (disch := first | omega | decide) only [go_sem, f0]; rfl) (by first | omega | (simp; omega)) (fun _ => rfl) rfl rfl (fun _ => rfl)] | skip
      try simp only [setAt, cellsL, cellsOf_agg, cellsOf_base, List.map_cons, List.map_nil, List.set_cons_zero, List.set_cons_succ, Nat.reduceAdd, Nat.zero_add]
      exact hK _
    iterate 1 (apply aops_step (by decide) rfl; · (intro K hK; simp (disch := first | omega | decide) only [go_sem, f0]; exact hK _))
    refine aops_nil ?_
    refine AW.ret ?_
    refine ⟨.inr rfl, ?_⟩
    refine leaves_mwp2 (rs := [.cell 2 56, .tmp 3]) rfl ?_
    simp (config := {failIfUnchanged := false}) [giveL, srcOne, ti56, upd, opn, aLoad, loadL, giveOne, reify, reifyL, readL, readOne, Mwp, M.bind, Mem.set, setAt, cellsL, hG, f0, aN, aU, aE, aBad]
    all_goals first | done | omega | (simp_all; done) | (simp_all; omega) | grind
  case hf =>
    intro hb
    try simp only [Bool.or_eq_true, Bool.and_eq_true, Bool.or_eq_false_iff, Bool.and_eq_false_iff, decide_eq_true_eq, decide_eq_false_iff_not] at hb
    have hbt9 := hb
    refine AW.skip ?_
    refine AW.seq ?_
    refine AW.region (cfg := cfg) ?_
    iterate 3 (apply aops_step (by decide) rfl; · (intro K hK; simp (disch := first | omega | decide) only [go_sem, f0]; exact hK _))
    apply aops_step (by decide) rfl
    · intro K hK
      simp (disch := first | omega | decide) only [go_sem, f0, act_build_t ti56 pl56, List.map]
      simp [-List.map_take, -List.map_drop, fillL, okOne, cellishAV, Value.oneCell', cellsL, cellsOf, setAt, M.bind, Mwp]
      exact hK _
    apply aops_step0 rfl
    · intro K hK
      simp (disch := first | omega | decide) only [go_sem, f0, act_store_t ti56, List.map]
      first | rw [mwp_store_c (by simp (disch := first | omega | decide) only [go_sem, f0]; rfl) (by rfl) (by rfl) (by rfl) (by simp)] | rw [mwp_aStore_map (by simp (disch := first | omega | decide) only [go_sem, f0]; rfl) (by first | omega | (simp; omega)) (fun _ => rfl) rfl rfl (fun _ => rfl)] | skip
      try simp only [setAt, cellsL, cellsOf_agg, cellsOf_base, List.map_cons, List.map_nil, List.set_cons_zero, List.set_cons_succ, Nat.reduceAdd, Nat.zero_add]
      exact hK _
    iterate 1 (apply aops_step (by decide) rfl; · (intro K hK; simp (disch := first | omega | decide) only [go_sem, f0]; exact hK _))
    refine aops_nil ?_
    refine AW.ret ?_
    refine ⟨.inr rfl, ?_⟩
    refine leaves_mwp2 (rs := [.cell 2 56, .tmp 3]) rfl ?_
    simp (config := {failIfUnchanged := false}) [giveL, srcOne, ti56, upd, opn, aLoad, loadL, giveOne, reify, reifyL, readL, readOne, Mwp, M.bind, Mem.set, setAt, cellsL, hG, f0, aN, aU, aE, aBad]
    all_goals first | done | omega | (simp_all; done) | (simp_all; omega) | grind

set_option maxHeartbeats 4000000 in
set_option maxRecDepth 100000 in
theorem good_Take (x u : Int) (hx : -9223372036854775808 ≤ x ∧ x ≤ 9223372036854775807) (hu : -9223372036854775808 ≤ u ∧ u ≤ 9223372036854775807) : Good Try.prog 33 [(.agg [i64 x, i64 u], false)] [] [(i64 (tV x u), false), (.agg [i64 (tN x u), i64 (tU x u)], false), (i64 (tE x u), false)] [] := by
  refine good_of_body2 26 Try.func33 rfl rfl rfl (by simp) ?_
  intro s m ha hr hv hG
  have f0 : s 0 = .v (.agg [i64 x, i64 u]) := ha 0 _ rfl
  clear ha
  refine AW.seq ?_
  refine AW.region (cfg := cfg) ?_
  apply aops_step (by decide) rfl
  · intro K hK
    simp (disch := first | omega | decide) only [go_sem, f0, act_box_t ti56, List.map]
    rw [settleL_vish _ _ (by rfl)]
    simp (disch := first | omega | decide) only [go_sem, f0, cellsL, List.map, List.length_cons, List.length_nil, Nat.reduceAdd, if_true]
    exact hK _
  iterate 1 (apply aops_step (by decide) rfl; · (intro K hK; simp (disch := first | omega | decide) only [go_sem, f0]; exact hK _))
  apply aops_step (by decide) rfl
  · intro K hK
    simp (disch := first | omega | decide) only [go_sem, f0, act_alloc_t ti56, List.map]
    exact hK _
  iterate 1 (apply aops_step (by decide) rfl; · (intro K hK; simp (disch := first | omega | decide) only [go_sem, f0]; exact hK _))
  refine aops_nil ?_
  refine AW.seq ?_
  refine AW.block ?_
  refine AW.seq ?_
  refine AW.region (cfg := cfg) ?_
  apply aops_step (by decide) rfl
  · intro K hK
    simp (disch := first | omega | decide) only [go_sem, f0, act_load_t ti56, List.map]
    first | rw [mwp_load_bs (by simp (disch := first | omega | decide) only [go_sem, f0]; rfl) (by simp)] | rw [mwp_load_b1 (by simp (disch := first | omega | decide) only [go_sem, f0]; rfl) (by rfl)] | rw [mwp_aLoad_map (by simp (disch := first | omega | decide) only [go_sem, f0]; rfl) (by first | omega | (simp; omega)) (fun _ => rfl)] | rw [mwp_aLoad_e1 (by simp (disch := first | omega | decide) only [go_sem, f0]; rfl) (by simp) rfl] | skip
    exact hK _
  apply aops_step (by decide) rfl
  · intro K hK
    simp (disch := first | omega | decide) only [go_sem, f0, act_call, List.map]
    apply mwp_call_s rfl rfl rfl
    · intro Q hQ
      simp (disch := first | omega | decide) only [go_sem, f0, peekL]
      first | exact hQ | (rw [peek_own (by simp (disch := first | omega | decide) only [go_sem, f0, peekL]; rfl)]; exact hQ) | (rw [peek_own (by simp (disch := first | omega | decide) only [go_sem, f0, peekL]; rfl)]; simp (disch := first | omega | decide) only [go_sem, f0, peekL]; rw [peek_own (by simp (disch := first | omega | decide) only [go_sem, f0, peekL]; rfl)]; exact hQ) | (rw [peek_own (by simp (disch := first | omega | decide) only [go_sem, f0, peekL]; rfl)]; simp (disch := first | omega | decide) only [go_sem, f0, peekL]; exact hQ)
    · exact good_may _ _ hx hu
    · simp [-List.map_take, -List.map_drop, noPtrL, noPtr, noPtrL_bsl, noPtrL_map, sub]
    · rfl
    · exact hK _
  iterate 2 (apply aops_step (by decide) rfl; · (intro K hK; simp (disch := first | omega | decide) only [go_sem, f0]; exact hK _))
  refine aops_nil ?_
  apply AW.cond
  · simp (disch := first | omega | decide) only [go_sem, f0]; rfl
  case ht =>
    intro hb
    try simp only [Bool.or_eq_true, Bool.and_eq_true, Bool.or_eq_false_iff, Bool.and_eq_false_iff, decide_eq_true_eq, decide_eq_false_iff_not] at hb
    have hbt6 := hb
    refine AW.seq ?_
    refine AW.region (cfg := cfg) ?_
    apply aops_step (by decide) rfl
    · intro K hK
      simp (disch := first | omega | decide) only [go_sem, f0, act_build_t ti56 pl56, List.map]
      simp [-List.map_take, -List.map_drop, fillL, okOne, cellishAV, Value.oneCell', cellsL, cellsOf, setAt, M.bind, Mwp]
      exact hK _
    iterate 1 (apply aops_step (by decide) rfl; · (intro K hK; simp (disch := first | omega | decide) only [go_sem, f0]; exact hK _))
    apply aops_step0 rfl
    · intro K hK
      simp (disch := first | omega | decide) only [go_sem, f0, act_store_t ti56, List.map]
      first | rw [mwp_store_c (by simp (disch := first | omega | decide) only [go_sem, f0]; rfl) (by rfl) (by rfl) (by rfl) (by simp)] | rw [mwp_aStore_map (by simp (disch := first | omega | decide) only [go_sem, f0]; rfl) (by first | omega | (simp; omega)) (fun _ => rfl) rfl rfl (fun _ => rfl)] | skip
      try simp only [setAt, cellsL, cellsOf_agg, cellsOf_base, List.map_cons, List.map_nil, List.set_cons_zero, List.set_cons_succ, Nat.reduceAdd, Nat.zero_add]
      exact hK _
    iterate 1 (apply aops_step (by decide) rfl; · (intro K hK; simp (disch := first | omega | decide) only [go_sem, f0]; exact hK _))
    refine aops_nil ?_
    refine AW.ret ?_
    refine ⟨.inr rfl, ?_⟩
    refine leaves_mwp2 (rs := [.tmp 2, .cell 3 56, .tmp 4]) rfl ?_
    simp (config := {failIfUnchanged := false}) [giveL, srcOne, ti56, upd, opn, aLoad, loadL, giveOne, reify, reifyL, readL, readOne, Mwp, M.bind, Mem.set, setAt, cellsL, hG, f0, tV, tN, tU, tE]
    all_goals first | done | omega | (simp_all; done) | (simp_all; omega) | grind
  case hf =>
    intro hb
    try simp only [Bool.or_eq_true, Bool.and_eq_true, Bool.or_eq_false_iff, Bool.and_eq_false_iff, decide_eq_true_eq, decide_eq_false_iff_not] at hb
    have hbt6 := hb
    refine AW.seq ?_
    refine AW.region (cfg := cfg) ?_
    apply aops_step (by decide) rfl
    · intro K hK
      simp (disch := first | omega | decide) only [go_sem, f0, act_fieldAddr_t fo56_0, List.map]
      first | rw [mwp_fieldAddr_b (by simp (disch := first | omega | decide) only [go_sem, f0]; rfl)] | skip
      exact hK _
    apply aops_step (by decide) rfl
    · intro K hK
      simp (disch := first | omega | decide) only [go_sem, f0, act_load_t ti3, List.map]
      first | rw [mwp_load_bs (by simp (disch := first | omega | decide) only [go_sem, f0]; rfl) (by simp)] | rw [mwp_load_b1 (by simp (disch := first | omega | decide) only [go_sem, f0]; rfl) (by rfl)] | rw [mwp_aLoad_map (by simp (disch := first | omega | decide) only [go_sem, f0]; rfl) (by first | omega | (simp; omega)) (fun _ => rfl)] | rw [mwp_aLoad_e1 (by simp (disch := first | omega | decide) only [go_sem, f0]; rfl) (by simp) rfl] | skip
      exact hK _
    apply aops_step (by decide) rfl
    · intro K hK
      simp (disch := first | omega | decide) only [go_sem, f0, act_fieldAddr_t fo56_1, List.map]
      first | rw [mwp_fieldAddr_b (by simp (disch := first | omega | decide) only [go_sem, f0]; rfl)] | skip
      exact hK _
    apply aops_step (by decide) rfl
    · intro K hK
      simp (disch := first | omega | decide) only [go_sem, f0, act_load_t ti3, List.map]
      first | rw [mwp_load_bs (by simp (disch := first | omega | decide) only [go_sem, f0]; rfl) (by simp)] | rw [mwp_load_b1 (by simp (disch := first | omega | decide) only [go_sem, f0]; rfl) (by rfl)] | rw [mwp_aLoad_map (by simp (disch := first | omega | decide) only [go_sem, f0]; rfl) (by first | omega | (simp; omega)) (fun _ => rfl)] | rw [mwp_aLoad_e1 (by simp (disch := first | omega | decide) only [go_sem, f0]; rfl) (by simp) rfl] | skip
      exact hK _
    iterate 2 (apply aops_step (by decide) rfl; · (intro K hK; simp (disch := first | omega | decide) only [go_sem, f0]; exact hK _))
    refine aops_nil ?_
    apply AW.cond
    · simp (disch := first | omega | decide) only [go_sem, f0]; rfl
    case ht =>
      intro hb
      try simp only [Bool.or_eq_true, Bool.and_eq_true, Bool.or_eq_false_iff, Bool.and_eq_false_iff, decide_eq_true_eq, decide_eq_false_iff_not] at hb
      have hbt11 := hb
      refine AW.seq ?_
      refine AW.region (cfg := cfg) ?_
      apply aops_step (by decide) rfl
      · intro K hK
        simp (disch := first | omega | decide) only [go_sem, f0, act_build_t ti56 pl56, List.map]
        simp [-List.map_take, -List.map_drop, fillL, okOne, cellishAV, Value.oneCell', cellsL, cellsOf, setAt, M.bind, Mwp]
        exact hK _
      iterate 1 (apply aops_step (by decide) rfl; · (intro K hK; simp (disch := first | omega | decide) only [go_sem, f0]; exact hK _))
      apply aops_step0 rfl
      · intro K hK
        simp (disch := first | omega | decide) only [go_sem, f0, act_store_t ti56, List.map]
        first | rw [mwp_store_c (by simp (disch := first | omega | decide) only [go_sem, f0]; rfl) (by rfl) (by rfl) (by rfl) (by simp)] | rw [mwp_aStore_map (by simp (disch := first | omega | decide) only [go_sem, f0]; rfl) (by first | omega | (simp; omega)) (fun _ => rfl) rfl rfl (fun _ => rfl)] | skip
        try simp only [setAt, cellsL, cellsOf_agg, cellsOf_base, List.map_cons, List.map_nil, List.set_cons_zero, List.set_cons_succ, Nat.reduceAdd, Nat.zero_add]
        exact hK _
      iterate 1 (apply aops_step (by decide) rfl; · (intro K hK; simp (disch := first | omega | decide) only [go_sem, f0]; exact hK _))
      refine aops_nil ?_
      refine AW.ret ?_
      refine ⟨.inr rfl, ?_⟩
      refine leaves_mwp2 (rs := [.tmp 2, .cell 3 56, .tmp 4]) rfl ?_
      simp (config := {failIfUnchanged := false}) [giveL, srcOne, ti56, upd, opn, aLoad, loadL, giveOne, reify, reifyL, readL, readOne, Mwp, M.bind, Mem.set, setAt, cellsL, hG, f0, tV, tN, tU, tE]
      all_goals first | done | omega | (simp_all; done) | (simp_all; omega) | grind
    case hf =>
      intro hb
      try simp only [Bool.or_eq_true, Bool.and_eq_true, Bool.or_eq_false_iff, Bool.and_eq_false_iff, decide_eq_true_eq, decide_eq_false_iff_not] at hb
      have hbt11 := hb
      refine AW.skip ?_
      refine AW.seq ?_
      refine AW.region (cfg := cfg) ?_
      apply aops_step (by decide) rfl
      · intro K hK
        simp (disch := first | omega | decide) only [go_sem, f0, act_fieldAddr_t fo56_0, List.map]
        first | rw [mwp_fieldAddr_b (by simp (disch := first | omega | decide) only [go_sem, f0]; rfl)] | skip
        exact hK _
      apply aops_step (by decide) rfl
      · intro K hK
        simp (disch := first | omega | decide) only [go_sem, f0, act_load_t ti3, List.map]
        first | rw [mwp_load_bs (by simp (disch := first | omega | decide) only [go_sem, f0]; rfl) (by simp)] | rw [mwp_load_b1 (by simp (disch := first | omega | decide) only [go_sem, f0]; rfl) (by rfl)] | rw [mwp_aLoad_map (by simp (disch := first | omega | decide) only [go_sem, f0]; rfl) (by first | omega | (simp; omega)) (fun _ => rfl)] | rw [mwp_aLoad_e1 (by simp (disch := first | omega | decide) only [go_sem, f0]; rfl) (by simp) rfl] | skip
        exact hK _
      iterate 1 (apply aops_step (by decide) rfl; · (intro K hK; simp (disch := first | omega | decide) only [go_sem, f0]; exact hK _))
      refine aops_nil ?_
      refine AW.seq ?_
      have hmr := mayS_range (x := x) (u := u) (by simpa using hbt6)
      refine AW.region (cfg := cfg) ?_
      apply aops_step (by decide) rfl
      · intro K hK
        simp (disch := first | omega | decide) only [go_sem, f0, act_fieldAddr_t fo56_0, List.map]
        first | rw [mwp_fieldAddr_b (by simp (disch := first | omega | decide) only [go_sem, f0]; rfl)] | skip
        exact hK _
      apply aops_step (by decide) rfl
      · intro K hK
        simp (disch := first | omega | decide) only [go_sem, f0, act_load_t ti3, List.map]
        first | rw [mwp_load_bs (by simp (disch := first | omega | decide) only [go_sem, f0]; rfl) (by simp)] | rw [mwp_load_b1 (by simp (disch := first | omega | decide) only [go_sem, f0]; rfl) (by rfl)] | rw [mwp_aLoad_map (by simp (disch := first | omega | decide) only [go_sem, f0]; rfl) (by first | omega | (simp; omega)) (fun _ => rfl)] | rw [mwp_aLoad_e1 (by simp (disch := first | omega | decide) only [go_sem, f0]; rfl) (by simp) rfl] | skip
        exact hK _
      iterate 1 (apply aops_step (by decide) rfl; · (intro K hK; simp (disch := first | omega | decide) only [go_sem, f0]; exact hK _))
      apply aops_step (by decide) rfl
      · intro K hK
        simp (disch := first | omega | decide) only [go_sem, f0, act_fieldAddr_t fo56_0, List.map]
        first | rw [mwp_fieldAddr_b (by simp (disch := first | omega | decide) only [go_sem, f0]; rfl)] | skip
        exact hK _
      apply aops_step0 rfl
      · intro K hK
        simp (disch := first | omega | decide) only [go_sem, f0, act_store_t ti3, List.map]
        first | rw [mwp_store_c (by simp (disch := first | omega | decide) only [go_sem, f0]; rfl) (by rfl) (by rfl) (by rfl) (by simp)] | rw [mwp_aStore_map (by simp (disch := first | omega | decide) only [go_sem, f0]; rfl) (by first | omega | (simp; omega)) (fun _ => rfl) rfl rfl (fun _ => rfl)] | skip
        try simp only [setAt, cellsL, cellsOf_agg, cellsOf_base, List.map_cons, List.map_nil, List.set_cons_zero, List.set_cons_succ, Nat.reduceAdd, Nat.zero_add]
        exact hK _
      refine aops_nil ?_
      refine AW.seq ?_
      refine AW.draw (cfg := cfg) (by kernel_rfl) (by kernel_rfl) (by kernel_rfl) ?_
      iterate 1 (apply adraw_step rfl; · (intro K hK; simp (disch := first | omega | decide) only [go_sem, f0]; exact hK))
      apply adraw_step rfl
      · intro K hK
        simp (disch := first | omega | decide) only [go_sem, f0, act_load_t ti56, List.map]
        first | rw [mwp_load_bs (by simp (disch := first | omega | decide) only [go_sem, f0]; rfl) (by simp)] | rw [mwp_load_b1 (by simp (disch := first | omega | decide) only [go_sem, f0]; rfl) (by rfl)] | rw [mwp_aLoad_map (by simp (disch := first | omega | decide) only [go_sem, f0]; rfl) (by first | omega | (simp; omega)) (fun _ => rfl)] | rw [mwp_aLoad_e1 (by simp (disch := first | omega | decide) only [go_sem, f0]; rfl) (by simp) rfl] | skip
        exact hK
      iterate 1 (apply adraw_step rfl; · (intro K hK; simp (disch := first | omega | decide) only [go_sem, f0]; exact hK))
      apply adraw_step0 rfl
      · intro K hK
        simp (disch := first | omega | decide) only [go_sem, f0, act_store_t ti56, List.map]
        first | rw [mwp_store_c (by simp (disch := first | omega | decide) only [go_sem, f0]; rfl) (by rfl) (by rfl) (by rfl) (by simp)] | rw [mwp_aStore_map (by simp (disch := first | omega | decide) only [go_sem, f0]; rfl) (by first | omega | (simp; omega)) (fun _ => rfl) rfl rfl (fun _ => rfl)] | skip
        try simp only [setAt, cellsL, cellsOf_agg, cellsOf_base, List.map_cons, List.map_nil, List.set_cons_zero, List.set_cons_succ, Nat.reduceAdd, Nat.zero_add]
        exact hK
      iterate 1 (apply adraw_step rfl; · (intro K hK; simp (disch := first | omega | decide) only [go_sem, f0]; exact hK))
      refine adraw_nil (by kernel_rfl) ?_
      refine AW.ret ?_
      refine ⟨.inr rfl, ?_⟩
      refine leaves_mwp2 (rs := [.tmp 2, .cell 3 56, .tmp 4]) rfl ?_
      simp (config := {failIfUnchanged := false}) [giveL, srcOne, ti56, upd, opn, aLoad, loadL, giveOne, reify, reifyL, readL, readOne, Mwp, M.bind, Mem.set, setAt, cellsL, hG, f0, tV, tN, tU, tE]
      all_goals first | done | omega | (simp_all; done) | (simp_all; omega) | grind

set_option maxHeartbeats 4000000 in
set_option maxRecDepth 100000 in
theorem good_Want (x u : Int) (hx : -9223372036854775808 ≤ x ∧ x ≤ 9223372036854775807) (hu : -9223372036854775808 ≤ u ∧ u ≤ 9223372036854775807) : Good Try.prog 34 [(.agg [i64 x, i64 u], false)] [] [(i64 (wV x u), false), (i64 (wE x u), false)] [] := by
  refine good_of_body2 17 Try.func34 rfl rfl rfl (by simp) ?_
  intro s m ha hr hv hG
  have f0 : s 0 = .v (.agg [i64 x, i64 u]) := ha 0 _ rfl
  clear ha
  refine AW.seq ?_
  refine AW.region (cfg := cfg) ?_
  apply aops_step (by decide) rfl
  · intro K hK
    simp (disch := first | omega | decide) only [go_sem, f0, act_box_t ti56, List.map]
    rw [settleL_vish _ _ (by rfl)]
    simp (disch := first | omega | decide) only [go_sem, f0, cellsL, List.map, List.length_cons, List.length_nil, Nat.reduceAdd, if_true]
    exact hK _
  iterate 2 (apply aops_step (by decide) rfl; · (intro K hK; simp (disch := first | omega | decide) only [go_sem, f0]; exact hK _))
  refine aops_nil ?_
  refine AW.seq ?_
  refine AW.block ?_
  refine AW.seq ?_
  refine AW.region (cfg := cfg) ?_
  apply aops_step (by decide) rfl
  · intro K hK
    simp (disch := first | omega | decide) only [go_sem, f0, act_load_t ti56, List.map]
    first | rw [mwp_load_bs (by simp (disch := first | omega | decide) only [go_sem, f0]; rfl) (by simp)] | rw [mwp_load_b1 (by simp (disch := first | omega | decide) only [go_sem, f0]; rfl) (by rfl)] | rw [mwp_aLoad_map (by simp (disch := first | omega | decide) only [go_sem, f0]; rfl) (by first | omega | (simp; omega)) (fun _ => rfl)] | rw [mwp_aLoad_e1 (by simp (disch := first | omega | decide) only [go_sem, f0]; rfl) (by simp) rfl] | skip
    exact hK _
  apply aops_step (by decide) rfl
  · intro K hK
    simp (disch := first | omega | decide) only [go_sem, f0, act_call, List.map]
    apply mwp_call_s rfl rfl rfl
    · intro Q hQ
      simp (disch := first | omega | decide) only [go_sem, f0, peekL]
      first | exact hQ | (rw [peek_own (by simp (disch := first | omega | decide) only [go_sem, f0, peekL]; rfl)]; exact hQ) | (rw [peek_own (by simp (disch := first | omega | decide) only [go_sem, f0, peekL]; rfl)]; simp (disch := first | omega | decide) only [go_sem, f0, peekL]; rw [peek_own (by simp (disch := first | omega | decide) only [go_sem, f0, peekL]; rfl)]; exact hQ) | (rw [peek_own (by simp (disch := first | omega | decide) only [go_sem, f0, peekL]; rfl)]; simp (disch := first | omega | decide) only [go_sem, f0, peekL]; exact hQ)
    · exact good_may _ _ hx hu
    · simp [-List.map_take, -List.map_drop, noPtrL, noPtr, noPtrL_bsl, noPtrL_map, sub]
    · rfl
    · exact hK _
  iterate 2 (apply aops_step (by decide) rfl; · (intro K hK; simp (disch := first | omega | decide) only [go_sem, f0]; exact hK _))
  refine aops_nil ?_
  apply AW.cond
  · simp (disch := first | omega | decide) only [go_sem, f0]; rfl
  case ht =>
    intro hb
    try simp only [Bool.or_eq_true, Bool.and_eq_true, Bool.or_eq_false_iff, Bool.and_eq_false_iff, decide_eq_true_eq, decide_eq_false_iff_not] at hb
    have hbt4 := hb
    refine AW.seq ?_
    refine AW.region (cfg := cfg) ?_
    iterate 2 (apply aops_step (by decide) rfl; · (intro K hK; simp (disch := first | omega | decide) only [go_sem, f0]; exact hK _))
    refine aops_nil ?_
    refine AW.ret ?_
    refine ⟨.inr rfl, ?_⟩
    refine leaves_mwp2 (rs := [.tmp 2, .tmp 3]) rfl ?_
    simp (config := {failIfUnchanged := false}) [giveL, srcOne, upd, opn, aLoad, loadL, giveOne, reify, reifyL, readL, readOne, Mwp, M.bind, Mem.set, setAt, cellsL, hG, f0, wV, wE]
    all_goals first | done | omega | (simp_all; done) | (simp_all; omega) | grind
  case hf =>
    intro hb
    try simp only [Bool.or_eq_true, Bool.and_eq_true, Bool.or_eq_false_iff, Bool.and_eq_false_iff, decide_eq_true_eq, decide_eq_false_iff_not] at hb
    have hbt4 := hb
    refine AW.seq ?_
    refine AW.region (cfg := cfg) ?_
    apply aops_step (by decide) rfl
    · intro K hK
      simp (disch := first | omega | decide) only [go_sem, f0, act_fieldAddr_t fo56_0, List.map]
      first | rw [mwp_fieldAddr_b (by simp (disch := first | omega | decide) only [go_sem, f0]; rfl)] | skip
      exact hK _
    apply aops_step (by decide) rfl
    · intro K hK
      simp (disch := first | omega | decide) only [go_sem, f0, act_load_t ti3, List.map]
      first | rw [mwp_load_bs (by simp (disch := first | omega | decide) only [go_sem, f0]; rfl) (by simp)] | rw [mwp_load_b1 (by simp (disch := first | omega | decide) only [go_sem, f0]; rfl) (by rfl)] | rw [mwp_aLoad_map (by simp (disch := first | omega | decide) only [go_sem, f0]; rfl) (by first | omega | (simp; omega)) (fun _ => rfl)] | rw [mwp_aLoad_e1 (by simp (disch := first | omega | decide) only [go_sem, f0]; rfl) (by simp) rfl] | skip
      exact hK _
    iterate 2 (apply aops_step (by decide) rfl; · (intro K hK; simp (disch := first | omega | decide) only [go_sem, f0]; exact hK _))
    refine aops_nil ?_
    apply AW.cond
    · simp (disch := first | omega | decide) only [go_sem, f0]; rfl
    case ht =>
      intro hb
      try simp only [Bool.or_eq_true, Bool.and_eq_true, Bool.or_eq_false_iff, Bool.and_eq_false_iff, decide_eq_true_eq, decide_eq_false_iff_not] at hb
      have hbt8 := hb
      refine AW.seq ?_
      refine AW.region (cfg := cfg) ?_
      iterate 2 (apply aops_step (by decide) rfl; · (intro K hK; simp (disch := first | omega | decide) only [go_sem, f0]; exact hK _))
      refine aops_nil ?_
      refine AW.ret ?_
      refine ⟨.inr rfl, ?_⟩
      refine leaves_mwp2 (rs := [.tmp 2, .tmp 3]) rfl ?_
      simp (config := {failIfUnchanged := false}) [giveL, srcOne, upd, opn, aLoad, loadL, giveOne, reify, reifyL, readL, readOne, Mwp, M.bind, Mem.set, setAt, cellsL, hG, f0, wV, wE]
      all_goals first | done | omega | (simp_all; done) | (simp_all; omega) | grind
    case hf =>
      intro hb
      try simp only [Bool.or_eq_true, Bool.and_eq_true, Bool.or_eq_false_iff, Bool.and_eq_false_iff, decide_eq_true_eq, decide_eq_false_iff_not] at hb
      have hbt8 := hb
      refine AW.skip ?_
      refine AW.seq ?_
      have hmr := mayS_range (x := x) (u := u) (by simpa using hbt4)
      refine AW.region (cfg := cfg) ?_
      apply aops_step (by decide) rfl
      · intro K hK
        simp (disch := first | omega | decide) only [go_sem, f0, act_fieldAddr_t fo56_0, List.map]
        first | rw [mwp_fieldAddr_b (by simp (disch := first | omega | decide) only [go_sem, f0]; rfl)] | skip
        exact hK _
      apply aops_step (by decide) rfl
      · intro K hK
        simp (disch := first | omega | decide) only [go_sem, f0, act_load_t ti3, List.map]
        first | rw [mwp_load_bs (by simp (disch := first | omega | decide) only [go_sem, f0]; rfl) (by simp)] | rw [mwp_load_b1 (by simp (disch := first | omega | decide) only [go_sem, f0]; rfl) (by rfl)] | rw [mwp_aLoad_map (by simp (disch := first | omega | decide) only [go_sem, f0]; rfl) (by first | omega | (simp; omega)) (fun _ => rfl)] | rw [mwp_aLoad_e1 (by simp (disch := first | omega | decide) only [go_sem, f0]; rfl) (by simp) rfl] | skip
        exact hK _
      iterate 5 (apply aops_step (by decide) rfl; · (intro K hK; simp (disch := first | omega | decide) only [go_sem, f0]; exact hK _))
      refine aops_nil ?_
      refine AW.ret ?_
      refine ⟨.inr rfl, ?_⟩
      refine leaves_mwp2 (rs := [.tmp 2, .tmp 3]) rfl ?_
      simp (config := {failIfUnchanged := false}) [giveL, srcOne, upd, opn, aLoad, loadL, giveOne, reify, reifyL, readL, readOne, Mwp, M.bind, Mem.set, setAt, cellsL, hG, f0, wV, wE]
      all_goals first | done | omega | (simp_all; done) | (simp_all; omega) | grind

set_option maxHeartbeats 4000000 in
set_option maxRecDepth 100000 in
theorem good_Grant (x u k : Int) (hx : -9223372036854775808 ≤ x ∧ x ≤ 9223372036854775807) (hu : -9223372036854775808 ≤ u ∧ u ≤ 9223372036854775807) (hk : -9223372036854775808 ≤ k ∧ k ≤ 9223372036854775807) : Good Try.prog 35 [(.agg [i64 x, i64 u], false), (i64 k, false)] [] [(.agg [i64 (gN x u k), i64 (gU x u k)], false), (i64 (gE x u k), false)] [] := by
  refine good_of_body2 23 Try.func35 rfl rfl rfl (by simp) ?_
  intro s m ha hr hv hG
  have f0 : s 0 = .v (.agg [i64 x, i64 u]) := ha 0 _ rfl
  have f1 : s 1 = .v (i64 k) := ha 1 _ rfl
  clear ha
  refine AW.seq ?_
  refine AW.region (cfg := cfg) ?_
  apply aops_step (by decide) rfl
  · intro K hK
    simp (disch := first | omega | decide) only [go_sem, f0, f1, act_box_t ti56, List.map]
    rw [settleL_vish _ _ (by rfl)]
    simp (disch := first | omega | decide) only [go_sem, f0, f1, cellsL, List.map, List.length_cons, List.length_nil, Nat.reduceAdd, if_true]
    exact hK _
  apply aops_step (by decide) rfl
  · intro K hK
    simp (disch := first | omega | decide) only [go_sem, f0, f1, act_alloc_t ti56, List.map]
    exact hK _
  iterate 1 (apply aops_step (by decide) rfl; · (intro K hK; simp (disch := first | omega | decide) only [go_sem, f0, f1]; exact hK _))
  refine aops_nil ?_
  refine AW.seq ?_
  refine AW.seq ?_
  refine AW.region (cfg := cfg) ?_
  apply aops_step (by decide) rfl
  · intro K hK
    simp (disch := first | omega | decide) only [go_sem, f0, f1, act_load_t ti56, List.map]
    first | rw [mwp_load_bs (by simp (disch := first | omega | decide) only [go_sem, f0, f1]; rfl) (by simp)] | rw [mwp_load_b1 (by simp (disch := first | omega | decide) only [go_sem, f0, f1]; rfl) (by rfl)] | rw [mwp_aLoad_map (by simp (disch := first | omega | decide) only [go_sem, f0, f1]; rfl) (by first | omega | (simp; omega)) (fun _ => rfl)] | rw [mwp_aLoad_e1 (by simp (disch := first | omega | decide) only [go_sem, f0, f1]; rfl) (by simp) rfl] | skip
    exact hK _
  apply aops_step (by decide) rfl
  · intro K hK
    simp (disch := first | omega | decide) only [go_sem, f0, f1, act_call, List.map]
    apply mwp_call_s rfl rfl rfl
    · intro Q hQ
      simp (disch := first | omega | decide) only [go_sem, f0, f1, peekL]
      first | exact hQ | (rw [peek_own (by simp (disch := first | omega | decide) only [go_sem, f0, f1, peekL]; rfl)]; exact hQ) | (rw [peek_own (by simp (disch := first | omega | decide) only [go_sem, f0, f1, peekL]; rfl)]; simp (disch := first | omega | decide) only [go_sem, f0, f1, peekL]; rw [peek_own (by simp (disch := first | omega | decide) only [go_sem, f0, f1, peekL]; rfl)]; exact hQ) | (rw [peek_own (by simp (disch := first | omega | decide) only [go_sem, f0, f1, peekL]; rfl)]; simp (disch := first | omega | decide) only [go_sem, f0, f1, peekL]; exact hQ)
    · exact good_may _ _ hx hu
    · simp [-List.map_take, -List.map_drop, noPtrL, noPtr, noPtrL_bsl, noPtrL_map, sub]
    · rfl
    · exact hK _
  iterate 2 (apply aops_step (by decide) rfl; · (intro K hK; simp (disch := first | omega | decide) only [go_sem, f0, f1]; exact hK _))
  apply aops_merge' (by decide) (by first | exact want_of (d := 9) rfl (by simp (disch := first | omega | decide) only [go_sem, f0, f1, opn_cond]; rfl) | exact want_of_cond (d := 9) rfl (by simp (disch := first | omega | decide) only [go_sem, f0, f1, opn_cond]; rfl))
  · intro hc K hK
    have hc2 := hc
    simp only [beq_iff_eq, decide_eq_true_eq, decide_eq_false_iff_not, Bool.or_eq_true, Bool.and_eq_true, Bool.or_eq_false_iff, Bool.and_eq_false_iff] at hc2
    simp (disch := first | omega | decide) only [go_sem, f0, f1, opn_cond, hc, if_true]
    exact hK _
  apply aops_merge' (by decide) (by first | exact want_of (d := 9) rfl (by simp (disch := first | omega | decide) only [go_sem, f0, f1, opn_cond]; rfl) | exact want_of_cond (d := 9) rfl (by simp (disch := first | omega | decide) only [go_sem, f0, f1, opn_cond]; rfl))
  · intro hc K hK
    have hc2 := hc
    simp only [beq_iff_eq, decide_eq_true_eq, decide_eq_false_iff_not, Bool.or_eq_true, Bool.and_eq_true, Bool.or_eq_false_iff, Bool.and_eq_false_iff] at hc2
    simp (disch := first | omega | decide) only [go_sem, f0, f1, opn_cond, hc, if_true, act_fieldAddr_t fo56_1]
    first | rw [mwp_fieldAddr_b (by simp (disch := first | omega | decide) only [go_sem, f0, f1, opn_cond, hc, if_true]; rfl)] | skip
    exact hK _
  apply aops_merge' (by decide) (by first | exact want_of (d := 9) rfl (by simp (disch := first | omega | decide) only [go_sem, f0, f1, opn_cond]; rfl) | exact want_of_cond (d := 9) rfl (by simp (disch := first | omega | decide) only [go_sem, f0, f1, opn_cond]; rfl))
  · intro hc K hK
    have hc2 := hc
    simp only [beq_iff_eq, decide_eq_true_eq, decide_eq_false_iff_not, Bool.or_eq_true, Bool.and_eq_true, Bool.or_eq_false_iff, Bool.and_eq_false_iff] at hc2
    simp (disch := first | omega | decide) only [go_sem, f0, f1, opn_cond, hc, if_true, act_load_t ti3]
    first | rw [mwp_load_bs (by simp (disch := first | omega | decide) only [go_sem, f0, f1, opn_cond, hc, if_true]; rfl) (by simp)] | rw [mwp_load_b1 (by simp (disch := first | omega | decide) only [go_sem, f0, f1, opn_cond, hc, if_true]; rfl) (by rfl)] | rw [mwp_aLoad_map (by simp (disch := first | omega | decide) only [go_sem, f0, f1, opn_cond, hc, if_true]; rfl) (by first | omega | (simp; omega)) (fun _ => rfl)] | rw [mwp_aLoad_e1 (by simp (disch := first | omega | decide) only [go_sem, f0, f1, opn_cond, hc, if_true]; rfl) (by simp) rfl] | skip
    exact hK _
  apply aops_merge' (by decide) (by first | exact want_of (d := 9) rfl (by simp (disch := first | omega | decide) only [go_sem, f0, f1, opn_cond]; rfl) | exact want_of_cond (d := 9) rfl (by simp (disch := first | omega | decide) only [go_sem, f0, f1, opn_cond]; rfl))
  · intro hc K hK
    have hc2 := hc
    simp only [beq_iff_eq, decide_eq_true_eq, decide_eq_false_iff_not, Bool.or_eq_true, Bool.and_eq_true, Bool.or_eq_false_iff, Bool.and_eq_false_iff] at hc2
    simp (disch := first | omega | decide) only [go_sem, f0, f1, opn_cond, hc, if_true]
    exact hK _
  iterate 2 (apply aops_step (by decide) rfl; · (intro K hK; simp (disch := first | omega | decide) only [go_sem, f0, f1]; exact hK _))
  apply aops_merge' (by decide) (by first | exact want_of (d := 15) rfl (by simp (disch := first | omega | decide) only [go_sem, f0, f1, opn_cond]; rfl) | exact want_of_cond (d := 15) rfl (by simp (disch := first | omega | decide) only [go_sem, f0, f1, opn_cond]; rfl))
  · intro hc K hK
    have hc2 := hc
    simp only [beq_iff_eq, decide_eq_true_eq, decide_eq_false_iff_not, Bool.or_eq_true, Bool.and_eq_true, Bool.or_eq_false_iff, Bool.and_eq_false_iff] at hc2
    simp (disch := first | omega | decide) only [go_sem, f0, f1, opn_cond, hc, if_true]
    exact hK _
  apply aops_merge' (by decide) (by first | exact want_of (d := 15) rfl (by simp (disch := first | omega | decide) only [go_sem, f0, f1, opn_cond]; rfl) | exact want_of_cond (d := 15) rfl (by simp (disch := first | omega | decide) only [go_sem, f0, f1, opn_cond]; rfl))
  · intro hc K hK
    have hc2 := hc
    simp only [beq_iff_eq, decide_eq_true_eq, decide_eq_false_iff_not, Bool.or_eq_true, Bool.and_eq_true, Bool.or_eq_false_iff, Bool.and_eq_false_iff] at hc2
    simp (disch := first | omega | decide) only [go_sem, f0, f1, opn_cond, hc, if_true]
    exact hK _
  iterate 1 (apply aops_step (by decide) rfl; · (intro K hK; simp (disch := first | omega | decide) only [go_sem, f0, f1]; exact hK _))
  refine aops_nil ?_
  apply AW.cond
  · simp (disch := first | omega | decide) only [go_sem, f0, f1]; rfl
  case ht =>
    intro hb
    try simp only [Bool.or_eq_true, Bool.and_eq_true, Bool.or_eq_false_iff, Bool.and_eq_false_iff, decide_eq_true_eq, decide_eq_false_iff_not] at hb
    have hbt18 := hb
    refine AW.seq ?_
    refine AW.region (cfg := cfg) ?_
    apply aops_step (by decide) rfl
    · intro K hK
      simp (disch := first | omega | decide) only [go_sem, f0, f1, act_build_t ti56 pl56, List.map]
      simp [-List.map_take, -List.map_drop, fillL, okOne, cellishAV, Value.oneCell', cellsL, cellsOf, setAt, M.bind, Mwp]
      exact hK _
    apply aops_step0 rfl
    · intro K hK
      simp (disch := first | omega | decide) only [go_sem, f0, f1, act_store_t ti56, List.map]
      first | rw [mwp_store_c (by simp (disch := first | omega | decide) only [go_sem, f0, f1]; rfl) (by rfl) (by rfl) (by rfl) (by simp)] | rw [mwp_aStore_map (by simp (disch := first | omega | decide) only [go_sem, f0, f1]; rfl) (by first | omega | (simp; omega)) (fun _ => rfl) rfl rfl (fun _ => rfl)] | skip
      try simp only [setAt, cellsL, cellsOf_agg, cellsOf_base, List.map_cons, List.map_nil, List.set_cons_zero, List.set_cons_succ, Nat.reduceAdd, Nat.zero_add]
      exact hK _
    iterate 1 (apply aops_step (by decide) rfl; · (intro K hK; simp (disch := first | omega | decide) only [go_sem, f0, f1]; exact hK _))
    refine aops_nil ?_
    refine AW.ret ?_
    refine ⟨.inr rfl, ?_⟩
    refine leaves_mwp2 (rs := [.cell 4 56, .tmp 5]) rfl ?_
    simp (config := {failIfUnchanged := false}) [giveL, srcOne, ti56, upd, opn, aLoad, loadL, giveOne, reify, reifyL, readL, readOne, Mwp, M.bind, Mem.set, setAt, cellsL, hG, f0, f1, gN, gU, gE, gBad]
    all_goals first | done | omega | (simp_all; done) | (simp_all; omega) | grind
  case hf =>
    intro hb
    try simp only [Bool.or_eq_true, Bool.and_eq_true, Bool.or_eq_false_iff, Bool.and_eq_false_iff, decide_eq_true_eq, decide_eq_false_iff_not] at hb
    have hbt18 := hb
    refine AW.skip ?_
    refine AW.seq ?_
    refine AW.region (cfg := cfg) ?_
    iterate 1 (apply aops_step (by decide) rfl; · (intro K hK; simp (disch := first | omega | decide) only [go_sem, f0, f1]; exact hK _))
    apply aops_step (by decide) rfl
    · intro K hK
      simp (disch := first | omega | decide) only [go_sem, f0, f1, act_fieldAddr_t fo56_1, List.map]
      first | rw [mwp_fieldAddr_b (by simp (disch := first | omega | decide) only [go_sem, f0, f1]; rfl)] | skip
      exact hK _
    apply aops_step0 rfl
    · intro K hK
      simp (disch := first | omega | decide) only [go_sem, f0, f1, act_store_t ti3, List.map]
      first | rw [mwp_store_c (by simp (disch := first | omega | decide) only [go_sem, f0, f1]; rfl) (by rfl) (by rfl) (by rfl) (by simp)] | rw [mwp_aStore_map (by simp (disch := first | omega | decide) only [go_sem, f0, f1]; rfl) (by first | omega | (simp; omega)) (fun _ => rfl) rfl rfl (fun _ => rfl)] | skip
      try simp only [setAt, cellsL, cellsOf_agg, cellsOf_base, List.map_cons, List.map_nil, List.set_cons_zero, List.set_cons_succ, Nat.reduceAdd, Nat.zero_add]
      exact hK _
    refine aops_nil ?_
    refine AW.seq ?_
    refine AW.region (cfg := cfg) ?_
    apply aops_step (by decide) rfl
    · intro K hK
      simp (disch := first | omega | decide) only [go_sem, f0, f1, act_load_t ti56, List.map]
      first | rw [mwp_load_bs (by simp (disch := first | omega | decide) only [go_sem, f0, f1]; rfl) (by simp)] | rw [mwp_load_b1 (by simp (disch := first | omega | decide) only [go_sem, f0, f1]; rfl) (by rfl)] | rw [mwp_aLoad_map (by simp (disch := first | omega | decide) only [go_sem, f0, f1]; rfl) (by first | omega | (simp; omega)) (fun _ => rfl)] | rw [mwp_aLoad_e1 (by simp (disch := first | omega | decide) only [go_sem, f0, f1]; rfl) (by simp) rfl] | skip
      exact hK _
    apply aops_step0 rfl
    · intro K hK
      simp (disch := first | omega | decide) only [go_sem, f0, f1, act_store_t ti56, List.map]
      first | rw [mwp_store_c (by simp (disch := first | omega | decide) only [go_sem, f0, f1]; rfl) (by rfl) (by rfl) (by rfl) (by simp)] | rw [mwp_aStore_map (by simp (disch := first | omega | decide) only [go_sem, f0, f1]; rfl) (by first | omega | (simp; omega)) (fun _ => rfl) rfl rfl (fun _ => rfl)] | skip
      try simp only [setAt, cellsL, cellsOf_agg, cellsOf_base, List.map_cons, List.map_nil, List.set_cons_zero, List.set_cons_succ, Nat.reduceAdd, Nat.zero_add]
      exact hK _
    iterate 1 (apply aops_step (by decide) rfl; · (intro K hK; simp (disch := first | omega | decide) only [go_sem, f0, f1]; exact hK _))
    refine aops_nil ?_
    refine AW.ret ?_
    refine ⟨.inr rfl, ?_⟩
    refine leaves_mwp2 (rs := [.cell 4 56, .tmp 5]) rfl ?_
    simp (config := {failIfUnchanged := false}) [giveL, srcOne, ti56, upd, opn, aLoad, loadL, giveOne, reify, reifyL, readL, readOne, Mwp, M.bind, Mem.set, setAt, cellsL, hG, f0, f1, gN, gU, gE, gBad]
    all_goals first | done | omega | (simp_all; done) | (simp_all; omega) | grind

set_option maxHeartbeats 4000000 in
set_option maxRecDepth 100000 in
theorem good_refWant (x u : Int) (hx : 1 ≤ x ∧ x ≤ 9223372036854775807) : Good Try.prog 38 [(.agg [i64 x, i64 u], false)] [] [(i64 (rW x), false)] [] := by
  refine good_of_body2 21 Try.func38 rfl rfl rfl (by simp) ?_
  intro s m ha hr hv hG
  have f0 : s 0 = .v (.agg [i64 x, i64 u]) := ha 0 _ rfl
  clear ha
  refine AW.seq ?_
  refine AW.region (cfg := cfg) ?_
  apply aops_step (by decide) rfl
  · intro K hK
    simp (disch := first | omega | decide) only [go_sem, f0, act_box_t ti56, List.map]
    rw [settleL_vish _ _ (by rfl)]
    simp (disch := first | omega | decide) only [go_sem, f0, cellsL, List.map, List.length_cons, List.length_nil, Nat.reduceAdd, if_true]
    exact hK _
  iterate 1 (apply aops_step (by decide) rfl; · (intro K hK; simp (disch := first | omega | decide) only [go_sem, f0]; exact hK _))
  refine aops_nil ?_
  refine AW.seq ?_
  refine AW.seq ?_
  refine AW.region (cfg := cfg) ?_
  apply aops_step (by decide) rfl
  · intro K hK
    simp (disch := first | omega | decide) only [go_sem, f0, act_fieldAddr_t fo56_0, List.map]
    first | rw [mwp_fieldAddr_b (by simp (disch := first | omega | decide) only [go_sem, f0]; rfl)] | skip
    exact hK _
  apply aops_step (by decide) rfl
  · intro K hK
    simp (disch := first | omega | decide) only [go_sem, f0, act_load_t ti3, List.map]
    first | rw [mwp_load_bs (by simp (disch := first | omega | decide) only [go_sem, f0]; rfl) (by simp)] | rw [mwp_load_b1 (by simp (disch := first | omega | decide) only [go_sem, f0]; rfl) (by rfl)] | rw [mwp_aLoad_map (by simp (disch := first | omega | decide) only [go_sem, f0]; rfl) (by first | omega | (simp; omega)) (fun _ => rfl)] | rw [mwp_aLoad_e1 (by simp (disch := first | omega | decide) only [go_sem, f0]; rfl) (by simp) rfl] | skip
    exact hK _
  iterate 1 (apply aops_step (by decide) rfl; · (intro K hK; simp (disch := first | omega | decide) only [go_sem, f0]; exact hK _))
  refine aops_nil ?_
  apply AW.cond
  · simp (disch := first | omega | decide) only [go_sem, f0]; rfl
  case ht =>
    intro hb
    try simp only [Bool.or_eq_true, Bool.and_eq_true, Bool.or_eq_false_iff, Bool.and_eq_false_iff, decide_eq_true_eq, decide_eq_false_iff_not] at hb
    have hbt7 := hb
    refine AW.seq ?_
    refine AW.region (cfg := cfg) ?_
    iterate 1 (apply aops_step (by decide) rfl; · (intro K hK; simp (disch := first | omega | decide) only [go_sem, f0]; exact hK _))
    refine aops_nil ?_
    refine AW.ret ?_
    refine ⟨.inr rfl, ?_⟩
    refine leaves_mwp2 (rs := [.tmp 2]) rfl ?_
    simp (config := {failIfUnchanged := false}) [giveL, srcOne, upd, opn, aLoad, loadL, giveOne, reify, reifyL, readL, readOne, Mwp, M.bind, Mem.set, setAt, cellsL, hG, f0, rW]
    all_goals first | done | omega | (simp_all; done) | (simp_all; omega) | grind
  case hf =>
    intro hb
    try simp only [Bool.or_eq_true, Bool.and_eq_true, Bool.or_eq_false_iff, Bool.and_eq_false_iff, decide_eq_true_eq, decide_eq_false_iff_not] at hb
    have hbt7 := hb
    refine AW.skip ?_
    refine AW.seq ?_
    refine AW.region (cfg := cfg) ?_
    apply aops_step (by decide) rfl
    · intro K hK
      simp (disch := first | omega | decide) only [go_sem, f0, act_fieldAddr_t fo56_0, List.map]
      first | rw [mwp_fieldAddr_b (by simp (disch := first | omega | decide) only [go_sem, f0]; rfl)] | skip
      exact hK _
    apply aops_step (by decide) rfl
    · intro K hK
      simp (disch := first | omega | decide) only [go_sem, f0, act_load_t ti3, List.map]
      first | rw [mwp_load_bs (by simp (disch := first | omega | decide) only [go_sem, f0]; rfl) (by simp)] | rw [mwp_load_b1 (by simp (disch := first | omega | decide) only [go_sem, f0]; rfl) (by rfl)] | rw [mwp_aLoad_map (by simp (disch := first | omega | decide) only [go_sem, f0]; rfl) (by first | omega | (simp; omega)) (fun _ => rfl)] | rw [mwp_aLoad_e1 (by simp (disch := first | omega | decide) only [go_sem, f0]; rfl) (by simp) rfl] | skip
      exact hK _
    iterate 1 (apply aops_step (by decide) rfl; · (intro K hK; simp (disch := first | omega | decide) only [go_sem, f0]; exact hK _))
    refine aops_nil ?_
    refine AW.seq ?_
    refine AW.seq ?_
    refine AW.region (cfg := cfg) ?_
    iterate 1 (apply aops_step (by decide) rfl; · (intro K hK; simp (disch := first | omega | decide) only [go_sem, f0]; exact hK _))
    refine aops_nil ?_
    refine AW.block ?_
    refine AW.forN (fun k σ => ∃ s m, σ = ⟨21, s, m⟩ ∧ s 3 = .v (i64 (x + (k : Int))) ∧ s 4 = .v (i64 (1 + (k : Int))) ∧ m.G = []) ((min 7 (4611686018427387904 - x)).toNat) ?_ ?_ ?_
    · refine ⟨_, _, rfl, ?_, ?_, hG⟩ <;> try simp (disch := first | omega | decide) only [go_sem, f0]
      all_goals first | rfl | (simp; done)
    · clear f0 hG
      rintro k σ hk ⟨s, m, rfl, f3, f4, hG⟩
      refine AW.seq ?_
      refine AW.seq ?_
      refine AW.region (cfg := cfg) ?_
      iterate 3 (apply aops_step (by decide) rfl; · (intro K hK; simp (disch := first | omega | decide) only [go_sem, f3, f4]; exact hK _))
      apply aops_merge' (by decide) (by first | exact want_of (d := 12) rfl (by simp (disch := first | omega | decide) only [go_sem, f3, f4, opn_cond]; rfl) | exact want_of_cond (d := 12) rfl (by simp (disch := first | omega | decide) only [go_sem, f3, f4, opn_cond]; rfl))
      · intro hc K hK
        have hc2 := hc
        simp only [beq_iff_eq, decide_eq_true_eq, decide_eq_false_iff_not, Bool.or_eq_true, Bool.and_eq_true, Bool.or_eq_false_iff, Bool.and_eq_false_iff] at hc2
        simp (disch := first | omega | decide) only [go_sem, f3, f4, opn_cond, hc, if_true]
        exact hK _
      apply aops_merge' (by decide) (by first | exact want_of (d := 12) rfl (by simp (disch := first | omega | decide) only [go_sem, f3, f4, opn_cond]; rfl) | exact want_of_cond (d := 12) rfl (by simp (disch := first | omega | decide) only [go_sem, f3, f4, opn_cond]; rfl))
      · intro hc K hK
        have hc2 := hc
        simp only [beq_iff_eq, decide_eq_true_eq, decide_eq_false_iff_not, Bool.or_eq_true, Bool.and_eq_true, Bool.or_eq_false_iff, Bool.and_eq_false_iff] at hc2
        simp (disch := first | omega | decide) only [go_sem, f3, f4, opn_cond, hc, if_true]
        exact hK _
      iterate 1 (apply aops_step (by decide) rfl; · (intro K hK; simp (disch := first | omega | decide) only [go_sem, f3, f4]; exact hK _))
      refine aops_nil ?_
      apply AW.cond
      · simp (disch := first | omega | decide) only [go_sem, f3, f4]; rfl
      case hf => intro hb; first | (simp at hb; done) | (simp at hb; omega)
      case ht =>
      intro hb
      have hbt15 := hb
      refine AW.skip ?_
      refine AW.seq ?_
      refine AW.block ?_
      refine AW.region (cfg := cfg) ?_
      iterate 3 (apply aops_step (by decide) rfl; · (intro K hK; simp (disch := first | omega | decide) only [go_sem, f3, f4]; exact hK _))
      refine aops_nil ?_
      refine AW.region (cfg := cfg) ?_
      iterate 3 (apply aops_step (by decide) rfl; · (intro K hK; simp (disch := first | omega | decide) only [go_sem, f3, f4]; exact hK _))
      refine aops_nil ?_
      refine ⟨_, _, rfl, ?_, ?_, hG⟩ <;> try simp (disch := first | omega | decide) only [go_sem, f3, f4]
      all_goals first | rfl | (simp; omega) | trace_state
    · clear f0 hG
      rintro σ ⟨s, m, rfl, f3, f4, hG⟩
      refine AW.seq ?_
      refine AW.seq ?_
      refine AW.region (cfg := cfg) ?_
      iterate 3 (apply aops_step (by decide) rfl; · (intro K hK; simp (disch := first | omega | decide) only [go_sem, f3, f4]; exact hK _))
      apply aops_merge' (by decide) (by first | exact want_of (d := 12) rfl (by simp (disch := first | omega | decide) only [go_sem, f3, f4, opn_cond]; rfl) | exact want_of_cond (d := 12) rfl (by simp (disch := first | omega | decide) only [go_sem, f3, f4, opn_cond]; rfl))
      · intro hc K hK
        have hc2 := hc
        simp only [beq_iff_eq, decide_eq_true_eq, decide_eq_false_iff_not, Bool.or_eq_true, Bool.and_eq_true, Bool.or_eq_false_iff, Bool.and_eq_false_iff] at hc2
        simp (disch := first | omega | decide) only [go_sem, f3, f4, opn_cond, hc, if_true]
        exact hK _
      apply aops_merge' (by decide) (by first | exact want_of (d := 12) rfl (by simp (disch := first | omega | decide) only [go_sem, f3, f4, opn_cond]; rfl) | exact want_of_cond (d := 12) rfl (by simp (disch := first | omega | decide) only [go_sem, f3, f4, opn_cond]; rfl))
      · intro hc K hK
        have hc2 := hc
        simp only [beq_iff_eq, decide_eq_true_eq, decide_eq_false_iff_not, Bool.or_eq_true, Bool.and_eq_true, Bool.or_eq_false_iff, Bool.and_eq_false_iff] at hc2
        simp (disch := first | omega | decide) only [go_sem, f3, f4, opn_cond, hc, if_true]
        exact hK _
      iterate 1 (apply aops_step (by decide) rfl; · (intro K hK; simp (disch := first | omega | decide) only [go_sem, f3, f4]; exact hK _))
      refine aops_nil ?_
      apply AW.cond
      · simp (disch := first | omega | decide) only [go_sem, f3, f4]; rfl
      case ht => intro hb; first | (simp at hb; done) | (simp at hb; omega)
      case hf =>
      intro hb
      have hbt15 := hb
      refine AW.exit ?_
      refine AW.seq ?_
      refine AW.region (cfg := cfg) ?_
      iterate 2 (apply aops_step (by decide) rfl; · (intro K hK; simp (disch := first | omega | decide) only [go_sem, f3, f4]; exact hK _))
      refine aops_nil ?_
      refine AW.ret ?_
      refine ⟨.inr rfl, ?_⟩
      refine leaves_mwp2 (rs := [.tmp 2]) rfl ?_
      simp (config := {failIfUnchanged := false}) [giveL, srcOne, upd, opn, aLoad, loadL, giveOne, reify, reifyL, readL, readOne, Mwp, M.bind, Mem.set, setAt, cellsL, hG, f3, f4, rW]
      all_goals first | done | omega | (simp_all; done) | (simp_all; omega) | grind

theorem aN_range (u : Int) : 0 ≤ aN u ∧ aN u ≤ 4611686018427387905 := by
  simp only [aN, aBad, Bool.or_eq_true, decide_eq_true_eq]; split <;> omega
theorem k1 : aN 0 = 1 := by decide
theorem k2 : aU 0 = 0 := by decide
theorem k3 : aE 0 = 0 := by decide
theorem k4 : tV 1 0 = 0 := by decide
theorem k5 : tN 1 0 = 0 := by decide
theorem k6 : tU 1 0 = 0 := by decide
theorem k7 : tE 1 0 = 3 := by decide
theorem k8 : wV 1 0 = 8 := by decide
theorem k9 : wE 1 0 = 0 := by decide
theorem k10 : gN 1 0 8 = 1 := by decide
theorem k11 : gU 1 0 8 = 8 := by decide
theorem k12 : gE 1 0 8 = 0 := by decide
theorem k13 : tV 1 8 = 1 := by decide
theorem k14 : tN 1 8 = 2 := by decide
theorem k15 : tU 1 8 = 8 := by decide
theorem k16 : tE 1 8 = 0 := by decide
set_option maxHeartbeats 4000000 in
set_option maxRecDepth 100000 in
theorem good_awake  : Good Try.prog 37 [] [] [(.b true, false)] [] := by
  refine good_of_body2 65 Try.func37 rfl rfl rfl (by simp) ?_
  intro s m ha hr hv hG
  clear ha
  refine AW.seq ?_
  refine AW.region (cfg := cfg) ?_
  iterate 1 (apply aops_step (by decide) rfl; · (intro K hK; simp (disch := first | omega | decide) only [go_sem, k1, k2, k3, k4, k5, k6, k7, k8, k9, k10, k11, k12, k13, k14, k15, k16, eq_self, decide_true, Bool.and_true, Bool.and_self]; exact hK _))
  refine aops_nil ?_
  refine AW.seq ?_
  refine AW.region (cfg := cfg) ?_
  apply aops_step (by decide) rfl
  · intro K hK
    simp (disch := first | omega | decide) only [go_sem, act_call, List.map, k1, k2, k3, k4, k5, k6, k7, k8, k9, k10, k11, k12, k13, k14, k15, k16, eq_self, decide_true, Bool.and_true, Bool.and_self]
    apply mwp_call_r rfl rfl rfl
    · intro Q hQ
      simp (disch := first | omega | decide) only [go_sem, peekL, k1, k2, k3, k4, k5, k6, k7, k8, k9, k10, k11, k12, k13, k14, k15, k16, eq_self, decide_true, Bool.and_true, Bool.and_self]
      first | exact hQ | (rw [peek_own (by simp (disch := first | omega | decide) only [go_sem, peekL, k1, k2, k3, k4, k5, k6, k7, k8, k9, k10, k11, k12, k13, k14, k15, k16, eq_self, decide_true, Bool.and_true, Bool.and_self]; rfl)]; exact hQ) | (rw [peek_own (by simp (disch := first | omega | decide) only [go_sem, peekL, k1, k2, k3, k4, k5, k6, k7, k8, k9, k10, k11, k12, k13, k14, k15, k16, eq_self, decide_true, Bool.and_true, Bool.and_self]; rfl)]; simp (disch := first | omega | decide) only [go_sem, peekL, k1, k2, k3, k4, k5, k6, k7, k8, k9, k10, k11, k12, k13, k14, k15, k16, eq_self, decide_true, Bool.and_true, Bool.and_self]; rw [peek_own (by simp (disch := first | omega | decide) only [go_sem, peekL, k1, k2, k3, k4, k5, k6, k7, k8, k9, k10, k11, k12, k13, k14, k15, k16, eq_self, decide_true, Bool.and_true, Bool.and_self]; rfl)]; exact hQ) | (rw [peek_own (by simp (disch := first | omega | decide) only [go_sem, peekL, k1, k2, k3, k4, k5, k6, k7, k8, k9, k10, k11, k12, k13, k14, k15, k16, eq_self, decide_true, Bool.and_true, Bool.and_self]; rfl)]; simp (disch := first | omega | decide) only [go_sem, peekL, k1, k2, k3, k4, k5, k6, k7, k8, k9, k10, k11, k12, k13, k14, k15, k16, eq_self, decide_true, Bool.and_true, Bool.and_self]; exact hQ)
    · exact good_After _ (by omega)
    · simp [-List.map_take, -List.map_drop, noPtrL, noPtr, noPtrL_bsl, noPtrL_map, sub]
    · simp (disch := first | omega | decide) only [go_sem, k1, k2, k3, k4, k5, k6, k7, k8, k9, k10, k11, k12, k13, k14, k15, k16, eq_self, decide_true, Bool.and_true, Bool.and_self]
      exact hK _
  iterate 3 (apply aops_step (by decide) rfl; · (intro K hK; simp (disch := first | omega | decide) only [go_sem, k1, k2, k3, k4, k5, k6, k7, k8, k9, k10, k11, k12, k13, k14, k15, k16, eq_self, decide_true, Bool.and_true, Bool.and_self]; exact hK _))
  apply aops_step (by decide) rfl
  · intro K hK
    simp (disch := first | omega | decide) only [go_sem, act_alloc_t ti56, List.map, k1, k2, k3, k4, k5, k6, k7, k8, k9, k10, k11, k12, k13, k14, k15, k16, eq_self, decide_true, Bool.and_true, Bool.and_self]
    exact hK _
  apply aops_step0 rfl
  · intro K hK
    simp (disch := first | omega | decide) only [go_sem, act_store_t ti56, List.map, k1, k2, k3, k4, k5, k6, k7, k8, k9, k10, k11, k12, k13, k14, k15, k16, eq_self, decide_true, Bool.and_true, Bool.and_self]
    first | rw [mwp_store_c (by simp (disch := first | omega | decide) only [go_sem, k1, k2, k3, k4, k5, k6, k7, k8, k9, k10, k11, k12, k13, k14, k15, k16, eq_self, decide_true, Bool.and_true, Bool.and_self]; rfl) (by rfl) (by rfl) (by rfl) (by simp)] | rw [mwp_aStore_map (by simp (disch := first | omega | decide) only [go_sem, k1, k2, k3, k4, k5, k6, k7, k8, k9, k10, k11, k12, k13, k14, k15, k16, eq_self, decide_true, Bool.and_true, Bool.and_self]; rfl) (by first | omega | (simp; omega)) (fun _ => rfl) rfl rfl (fun _ => rfl)] | skip
    try simp only [setAt, cellsL, cellsOf_agg, cellsOf_base, List.map_cons, List.map_nil, List.set_cons_zero, List.set_cons_succ, Nat.reduceAdd, Nat.zero_add]
    exact hK _
  iterate 1 (apply aops_step (by decide) rfl; · (intro K hK; simp (disch := first | omega | decide) only [go_sem, k1, k2, k3, k4, k5, k6, k7, k8, k9, k10, k11, k12, k13, k14, k15, k16, eq_self, decide_true, Bool.and_true, Bool.and_self]; exact hK _))
  refine aops_nil ?_
  refine AW.seq ?_
  refine AW.region (cfg := cfg) ?_
  apply aops_step (by decide) rfl
  · intro K hK
    simp (disch := first | omega | decide) only [go_sem, act_load_t ti56, List.map, k1, k2, k3, k4, k5, k6, k7, k8, k9, k10, k11, k12, k13, k14, k15, k16, eq_self, decide_true, Bool.and_true, Bool.and_self]
    first | rw [mwp_load_bs (by simp (disch := first | omega | decide) only [go_sem, k1, k2, k3, k4, k5, k6, k7, k8, k9, k10, k11, k12, k13, k14, k15, k16, eq_self, decide_true, Bool.and_true, Bool.and_self]; rfl) (by simp)] | rw [mwp_load_b1 (by simp (disch := first | omega | decide) only [go_sem, k1, k2, k3, k4, k5, k6, k7, k8, k9, k10, k11, k12, k13, k14, k15, k16, eq_self, decide_true, Bool.and_true, Bool.and_self]; rfl) (by rfl)] | rw [mwp_aLoad_map (by simp (disch := first | omega | decide) only [go_sem, k1, k2, k3, k4, k5, k6, k7, k8, k9, k10, k11, k12, k13, k14, k15, k16, eq_self, decide_true, Bool.and_true, Bool.and_self]; rfl) (by first | omega | (simp; omega)) (fun _ => rfl)] | rw [mwp_aLoad_e1 (by simp (disch := first | omega | decide) only [go_sem, k1, k2, k3, k4, k5, k6, k7, k8, k9, k10, k11, k12, k13, k14, k15, k16, eq_self, decide_true, Bool.and_true, Bool.and_self]; rfl) (by simp) rfl] | skip
    exact hK _
  apply aops_step (by decide) rfl
  · intro K hK
    simp (disch := first | omega | decide) only [go_sem, act_call, List.map, k1, k2, k3, k4, k5, k6, k7, k8, k9, k10, k11, k12, k13, k14, k15, k16, eq_self, decide_true, Bool.and_true, Bool.and_self]
    apply mwp_call_r rfl rfl rfl
    · intro Q hQ
      simp (disch := first | omega | decide) only [go_sem, peekL, k1, k2, k3, k4, k5, k6, k7, k8, k9, k10, k11, k12, k13, k14, k15, k16, eq_self, decide_true, Bool.and_true, Bool.and_self]
      first | exact hQ | (rw [peek_own (by simp (disch := first | omega | decide) only [go_sem, peekL, k1, k2, k3, k4, k5, k6, k7, k8, k9, k10, k11, k12, k13, k14, k15, k16, eq_self, decide_true, Bool.and_true, Bool.and_self]; rfl)]; exact hQ) | (rw [peek_own (by simp (disch := first | omega | decide) only [go_sem, peekL, k1, k2, k3, k4, k5, k6, k7, k8, k9, k10, k11, k12, k13, k14, k15, k16, eq_self, decide_true, Bool.and_true, Bool.and_self]; rfl)]; simp (disch := first | omega | decide) only [go_sem, peekL, k1, k2, k3, k4, k5, k6, k7, k8, k9, k10, k11, k12, k13, k14, k15, k16, eq_self, decide_true, Bool.and_true, Bool.and_self]; rw [peek_own (by simp (disch := first | omega | decide) only [go_sem, peekL, k1, k2, k3, k4, k5, k6, k7, k8, k9, k10, k11, k12, k13, k14, k15, k16, eq_self, decide_true, Bool.and_true, Bool.and_self]; rfl)]; exact hQ) | (rw [peek_own (by simp (disch := first | omega | decide) only [go_sem, peekL, k1, k2, k3, k4, k5, k6, k7, k8, k9, k10, k11, k12, k13, k14, k15, k16, eq_self, decide_true, Bool.and_true, Bool.and_self]; rfl)]; simp (disch := first | omega | decide) only [go_sem, peekL, k1, k2, k3, k4, k5, k6, k7, k8, k9, k10, k11, k12, k13, k14, k15, k16, eq_self, decide_true, Bool.and_true, Bool.and_self]; exact hQ)
    · exact good_Take 1 0 (by omega) (by omega)
    · simp [-List.map_take, -List.map_drop, noPtrL, noPtr, noPtrL_bsl, noPtrL_map, sub]
    · simp (disch := first | omega | decide) only [go_sem, k1, k2, k3, k4, k5, k6, k7, k8, k9, k10, k11, k12, k13, k14, k15, k16, eq_self, decide_true, Bool.and_true, Bool.and_self]
      exact hK _
  iterate 4 (apply aops_step (by decide) rfl; · (intro K hK; simp (disch := first | omega | decide) only [go_sem, k1, k2, k3, k4, k5, k6, k7, k8, k9, k10, k11, k12, k13, k14, k15, k16, eq_self, decide_true, Bool.and_true, Bool.and_self]; exact hK _))
  apply aops_step (by decide) rfl
  · intro K hK
    simp (disch := first | omega | decide) only [go_sem, act_alloc_t ti56, List.map, k1, k2, k3, k4, k5, k6, k7, k8, k9, k10, k11, k12, k13, k14, k15, k16, eq_self, decide_true, Bool.and_true, Bool.and_self]
    exact hK _
  iterate 1 (apply aops_step (by decide) rfl; · (intro K hK; simp (disch := first | omega | decide) only [go_sem, k1, k2, k3, k4, k5, k6, k7, k8, k9, k10, k11, k12, k13, k14, k15, k16, eq_self, decide_true, Bool.and_true, Bool.and_self]; exact hK _))
  apply aops_step0 rfl
  · intro K hK
    simp (disch := first | omega | decide) only [go_sem, act_store_t ti56, List.map, k1, k2, k3, k4, k5, k6, k7, k8, k9, k10, k11, k12, k13, k14, k15, k16, eq_self, decide_true, Bool.and_true, Bool.and_self]
    first | rw [mwp_store_c (by simp (disch := first | omega | decide) only [go_sem, k1, k2, k3, k4, k5, k6, k7, k8, k9, k10, k11, k12, k13, k14, k15, k16, eq_self, decide_true, Bool.and_true, Bool.and_self]; rfl) (by rfl) (by rfl) (by rfl) (by simp)] | rw [mwp_aStore_map (by simp (disch := first | omega | decide) only [go_sem, k1, k2, k3, k4, k5, k6, k7, k8, k9, k10, k11, k12, k13, k14, k15, k16, eq_self, decide_true, Bool.and_true, Bool.and_self]; rfl) (by first | omega | (simp; omega)) (fun _ => rfl) rfl rfl (fun _ => rfl)] | skip
    try simp only [setAt, cellsL, cellsOf_agg, cellsOf_base, List.map_cons, List.map_nil, List.set_cons_zero, List.set_cons_succ, Nat.reduceAdd, Nat.zero_add]
    exact hK _
  iterate 1 (apply aops_step (by decide) rfl; · (intro K hK; simp (disch := first | omega | decide) only [go_sem, k1, k2, k3, k4, k5, k6, k7, k8, k9, k10, k11, k12, k13, k14, k15, k16, eq_self, decide_true, Bool.and_true, Bool.and_self]; exact hK _))
  refine aops_nil ?_
  refine AW.seq ?_
  refine AW.region (cfg := cfg) ?_
  apply aops_step (by decide) rfl
  · intro K hK
    simp (disch := first | omega | decide) only [go_sem, act_load_t ti56, List.map, k1, k2, k3, k4, k5, k6, k7, k8, k9, k10, k11, k12, k13, k14, k15, k16, eq_self, decide_true, Bool.and_true, Bool.and_self]
    first | rw [mwp_load_bs (by simp (disch := first | omega | decide) only [go_sem, k1, k2, k3, k4, k5, k6, k7, k8, k9, k10, k11, k12, k13, k14, k15, k16, eq_self, decide_true, Bool.and_true, Bool.and_self]; rfl) (by simp)] | rw [mwp_load_b1 (by simp (disch := first | omega | decide) only [go_sem, k1, k2, k3, k4, k5, k6, k7, k8, k9, k10, k11, k12, k13, k14, k15, k16, eq_self, decide_true, Bool.and_true, Bool.and_self]; rfl) (by rfl)] | rw [mwp_aLoad_map (by simp (disch := first | omega | decide) only [go_sem, k1, k2, k3, k4, k5, k6, k7, k8, k9, k10, k11, k12, k13, k14, k15, k16, eq_self, decide_true, Bool.and_true, Bool.and_self]; rfl) (by first | omega | (simp; omega)) (fun _ => rfl)] | rw [mwp_aLoad_e1 (by simp (disch := first | omega | decide) only [go_sem, k1, k2, k3, k4, k5, k6, k7, k8, k9, k10, k11, k12, k13, k14, k15, k16, eq_self, decide_true, Bool.and_true, Bool.and_self]; rfl) (by simp) rfl] | skip
    exact hK _
  apply aops_step (by decide) rfl
  · intro K hK
    simp (disch := first | omega | decide) only [go_sem, act_call, List.map, k1, k2, k3, k4, k5, k6, k7, k8, k9, k10, k11, k12, k13, k14, k15, k16, eq_self, decide_true, Bool.and_true, Bool.and_self]
    apply mwp_call_r rfl rfl rfl
    · intro Q hQ
      simp (disch := first | omega | decide) only [go_sem, peekL, k1, k2, k3, k4, k5, k6, k7, k8, k9, k10, k11, k12, k13, k14, k15, k16, eq_self, decide_true, Bool.and_true, Bool.and_self]
      first | exact hQ | (rw [peek_own (by simp (disch := first | omega | decide) only [go_sem, peekL, k1, k2, k3, k4, k5, k6, k7, k8, k9, k10, k11, k12, k13, k14, k15, k16, eq_self, decide_true, Bool.and_true, Bool.and_self]; rfl)]; exact hQ) | (rw [peek_own (by simp (disch := first | omega | decide) only [go_sem, peekL, k1, k2, k3, k4, k5, k6, k7, k8, k9, k10, k11, k12, k13, k14, k15, k16, eq_self, decide_true, Bool.and_true, Bool.and_self]; rfl)]; simp (disch := first | omega | decide) only [go_sem, peekL, k1, k2, k3, k4, k5, k6, k7, k8, k9, k10, k11, k12, k13, k14, k15, k16, eq_self, decide_true, Bool.and_true, Bool.and_self]; rw [peek_own (by simp (disch := first | omega | decide) only [go_sem, peekL, k1, k2, k3, k4, k5, k6, k7, k8, k9, k10, k11, k12, k13, k14, k15, k16, eq_self, decide_true, Bool.and_true, Bool.and_self]; rfl)]; exact hQ) | (rw [peek_own (by simp (disch := first | omega | decide) only [go_sem, peekL, k1, k2, k3, k4, k5, k6, k7, k8, k9, k10, k11, k12, k13, k14, k15, k16, eq_self, decide_true, Bool.and_true, Bool.and_self]; rfl)]; simp (disch := first | omega | decide) only [go_sem, peekL, k1, k2, k3, k4, k5, k6, k7, k8, k9, k10, k11, k12, k13, k14, k15, k16, eq_self, decide_true, Bool.and_true, Bool.and_self]; exact hQ)
    · exact good_Want _ _ (by omega) (by omega)
    · simp [-List.map_take, -List.map_drop, noPtrL, noPtr, noPtrL_bsl, noPtrL_map, sub]
    · simp (disch := first | omega | decide) only [go_sem, k1, k2, k3, k4, k5, k6, k7, k8, k9, k10, k11, k12, k13, k14, k15, k16, eq_self, decide_true, Bool.and_true, Bool.and_self]
      exact hK _
  iterate 5 (apply aops_step (by decide) rfl; · (intro K hK; simp (disch := first | omega | decide) only [go_sem, k1, k2, k3, k4, k5, k6, k7, k8, k9, k10, k11, k12, k13, k14, k15, k16, eq_self, decide_true, Bool.and_true, Bool.and_self]; exact hK _))
  refine aops_nil ?_
  refine AW.seq ?_
  refine AW.region (cfg := cfg) ?_
  apply aops_step (by decide) rfl
  · intro K hK
    simp (disch := first | omega | decide) only [go_sem, act_load_t ti56, List.map, k1, k2, k3, k4, k5, k6, k7, k8, k9, k10, k11, k12, k13, k14, k15, k16, eq_self, decide_true, Bool.and_true, Bool.and_self]
    first | rw [mwp_load_bs (by simp (disch := first | omega | decide) only [go_sem, k1, k2, k3, k4, k5, k6, k7, k8, k9, k10, k11, k12, k13, k14, k15, k16, eq_self, decide_true, Bool.and_true, Bool.and_self]; rfl) (by simp)] | rw [mwp_load_b1 (by simp (disch := first | omega | decide) only [go_sem, k1, k2, k3, k4, k5, k6, k7, k8, k9, k10, k11, k12, k13, k14, k15, k16, eq_self, decide_true, Bool.and_true, Bool.and_self]; rfl) (by rfl)] | rw [mwp_aLoad_map (by simp (disch := first | omega | decide) only [go_sem, k1, k2, k3, k4, k5, k6, k7, k8, k9, k10, k11, k12, k13, k14, k15, k16, eq_self, decide_true, Bool.and_true, Bool.and_self]; rfl) (by first | omega | (simp; omega)) (fun _ => rfl)] | rw [mwp_aLoad_e1 (by simp (disch := first | omega | decide) only [go_sem, k1, k2, k3, k4, k5, k6, k7, k8, k9, k10, k11, k12, k13, k14, k15, k16, eq_self, decide_true, Bool.and_true, Bool.and_self]; rfl) (by simp) rfl] | skip
    exact hK _
  iterate 1 (apply aops_step (by decide) rfl; · (intro K hK; simp (disch := first | omega | decide) only [go_sem, k1, k2, k3, k4, k5, k6, k7, k8, k9, k10, k11, k12, k13, k14, k15, k16, eq_self, decide_true, Bool.and_true, Bool.and_self]; exact hK _))
  apply aops_step (by decide) rfl
  · intro K hK
    simp (disch := first | omega | decide) only [go_sem, act_call, List.map, k1, k2, k3, k4, k5, k6, k7, k8, k9, k10, k11, k12, k13, k14, k15, k16, eq_self, decide_true, Bool.and_true, Bool.and_self]
    apply mwp_call_r rfl rfl rfl
    · intro Q hQ
      simp (disch := first | omega | decide) only [go_sem, peekL, k1, k2, k3, k4, k5, k6, k7, k8, k9, k10, k11, k12, k13, k14, k15, k16, eq_self, decide_true, Bool.and_true, Bool.and_self]
      first | exact hQ | (rw [peek_own (by simp (disch := first | omega | decide) only [go_sem, peekL, k1, k2, k3, k4, k5, k6, k7, k8, k9, k10, k11, k12, k13, k14, k15, k16, eq_self, decide_true, Bool.and_true, Bool.and_self]; rfl)]; exact hQ) | (rw [peek_own (by simp (disch := first | omega | decide) only [go_sem, peekL, k1, k2, k3, k4, k5, k6, k7, k8, k9, k10, k11, k12, k13, k14, k15, k16, eq_self, decide_true, Bool.and_true, Bool.and_self]; rfl)]; simp (disch := first | omega | decide) only [go_sem, peekL, k1, k2, k3, k4, k5, k6, k7, k8, k9, k10, k11, k12, k13, k14, k15, k16, eq_self, decide_true, Bool.and_true, Bool.and_self]; rw [peek_own (by simp (disch := first | omega | decide) only [go_sem, peekL, k1, k2, k3, k4, k5, k6, k7, k8, k9, k10, k11, k12, k13, k14, k15, k16, eq_self, decide_true, Bool.and_true, Bool.and_self]; rfl)]; exact hQ) | (rw [peek_own (by simp (disch := first | omega | decide) only [go_sem, peekL, k1, k2, k3, k4, k5, k6, k7, k8, k9, k10, k11, k12, k13, k14, k15, k16, eq_self, decide_true, Bool.and_true, Bool.and_self]; rfl)]; simp (disch := first | omega | decide) only [go_sem, peekL, k1, k2, k3, k4, k5, k6, k7, k8, k9, k10, k11, k12, k13, k14, k15, k16, eq_self, decide_true, Bool.and_true, Bool.and_self]; exact hQ)
    · exact good_Grant _ _ _ (by omega) (by omega) (by omega)
    · simp [-List.map_take, -List.map_drop, noPtrL, noPtr, noPtrL_bsl, noPtrL_map, sub]
    · simp (disch := first | omega | decide) only [go_sem, k1, k2, k3, k4, k5, k6, k7, k8, k9, k10, k11, k12, k13, k14, k15, k16, eq_self, decide_true, Bool.and_true, Bool.and_self]
      exact hK _
  iterate 3 (apply aops_step (by decide) rfl; · (intro K hK; simp (disch := first | omega | decide) only [go_sem, k1, k2, k3, k4, k5, k6, k7, k8, k9, k10, k11, k12, k13, k14, k15, k16, eq_self, decide_true, Bool.and_true, Bool.and_self]; exact hK _))
  apply aops_step0 rfl
  · intro K hK
    simp (disch := first | omega | decide) only [go_sem, act_store_t ti56, List.map, k1, k2, k3, k4, k5, k6, k7, k8, k9, k10, k11, k12, k13, k14, k15, k16, eq_self, decide_true, Bool.and_true, Bool.and_self]
    first | rw [mwp_store_c (by simp (disch := first | omega | decide) only [go_sem, k1, k2, k3, k4, k5, k6, k7, k8, k9, k10, k11, k12, k13, k14, k15, k16, eq_self, decide_true, Bool.and_true, Bool.and_self]; rfl) (by rfl) (by rfl) (by rfl) (by simp)] | rw [mwp_aStore_map (by simp (disch := first | omega | decide) only [go_sem, k1, k2, k3, k4, k5, k6, k7, k8, k9, k10, k11, k12, k13, k14, k15, k16, eq_self, decide_true, Bool.and_true, Bool.and_self]; rfl) (by first | omega | (simp; omega)) (fun _ => rfl) rfl rfl (fun _ => rfl)] | skip
    try simp only [setAt, cellsL, cellsOf_agg, cellsOf_base, List.map_cons, List.map_nil, List.set_cons_zero, List.set_cons_succ, Nat.reduceAdd, Nat.zero_add]
    exact hK _
  iterate 1 (apply aops_step (by decide) rfl; · (intro K hK; simp (disch := first | omega | decide) only [go_sem, k1, k2, k3, k4, k5, k6, k7, k8, k9, k10, k11, k12, k13, k14, k15, k16, eq_self, decide_true, Bool.and_true, Bool.and_self]; exact hK _))
  refine aops_nil ?_
  refine AW.seq ?_
  refine AW.region (cfg := cfg) ?_
  apply aops_step (by decide) rfl
  · intro K hK
    simp (disch := first | omega | decide) only [go_sem, act_load_t ti56, List.map, k1, k2, k3, k4, k5, k6, k7, k8, k9, k10, k11, k12, k13, k14, k15, k16, eq_self, decide_true, Bool.and_true, Bool.and_self]
    first | rw [mwp_load_bs (by simp (disch := first | omega | decide) only [go_sem, k1, k2, k3, k4, k5, k6, k7, k8, k9, k10, k11, k12, k13, k14, k15, k16, eq_self, decide_true, Bool.and_true, Bool.and_self]; rfl) (by simp)] | rw [mwp_load_b1 (by simp (disch := first | omega | decide) only [go_sem, k1, k2, k3, k4, k5, k6, k7, k8, k9, k10, k11, k12, k13, k14, k15, k16, eq_self, decide_true, Bool.and_true, Bool.and_self]; rfl) (by rfl)] | rw [mwp_aLoad_map (by simp (disch := first | omega | decide) only [go_sem, k1, k2, k3, k4, k5, k6, k7, k8, k9, k10, k11, k12, k13, k14, k15, k16, eq_self, decide_true, Bool.and_true, Bool.and_self]; rfl) (by first | omega | (simp; omega)) (fun _ => rfl)] | rw [mwp_aLoad_e1 (by simp (disch := first | omega | decide) only [go_sem, k1, k2, k3, k4, k5, k6, k7, k8, k9, k10, k11, k12, k13, k14, k15, k16, eq_self, decide_true, Bool.and_true, Bool.and_self]; rfl) (by simp) rfl] | skip
    exact hK _
  apply aops_step (by decide) rfl
  · intro K hK
    simp (disch := first | omega | decide) only [go_sem, act_call, List.map, k1, k2, k3, k4, k5, k6, k7, k8, k9, k10, k11, k12, k13, k14, k15, k16, eq_self, decide_true, Bool.and_true, Bool.and_self]
    apply mwp_call_r rfl rfl rfl
    · intro Q hQ
      simp (disch := first | omega | decide) only [go_sem, peekL, k1, k2, k3, k4, k5, k6, k7, k8, k9, k10, k11, k12, k13, k14, k15, k16, eq_self, decide_true, Bool.and_true, Bool.and_self]
      first | exact hQ | (rw [peek_own (by simp (disch := first | omega | decide) only [go_sem, peekL, k1, k2, k3, k4, k5, k6, k7, k8, k9, k10, k11, k12, k13, k14, k15, k16, eq_self, decide_true, Bool.and_true, Bool.and_self]; rfl)]; exact hQ) | (rw [peek_own (by simp (disch := first | omega | decide) only [go_sem, peekL, k1, k2, k3, k4, k5, k6, k7, k8, k9, k10, k11, k12, k13, k14, k15, k16, eq_self, decide_true, Bool.and_true, Bool.and_self]; rfl)]; simp (disch := first | omega | decide) only [go_sem, peekL, k1, k2, k3, k4, k5, k6, k7, k8, k9, k10, k11, k12, k13, k14, k15, k16, eq_self, decide_true, Bool.and_true, Bool.and_self]; rw [peek_own (by simp (disch := first | omega | decide) only [go_sem, peekL, k1, k2, k3, k4, k5, k6, k7, k8, k9, k10, k11, k12, k13, k14, k15, k16, eq_self, decide_true, Bool.and_true, Bool.and_self]; rfl)]; exact hQ) | (rw [peek_own (by simp (disch := first | omega | decide) only [go_sem, peekL, k1, k2, k3, k4, k5, k6, k7, k8, k9, k10, k11, k12, k13, k14, k15, k16, eq_self, decide_true, Bool.and_true, Bool.and_self]; rfl)]; simp (disch := first | omega | decide) only [go_sem, peekL, k1, k2, k3, k4, k5, k6, k7, k8, k9, k10, k11, k12, k13, k14, k15, k16, eq_self, decide_true, Bool.and_true, Bool.and_self]; exact hQ)
    · exact good_Take 1 8 (by omega) (by omega)
    · simp [-List.map_take, -List.map_drop, noPtrL, noPtr, noPtrL_bsl, noPtrL_map, sub]
    · simp (disch := first | omega | decide) only [go_sem, k1, k2, k3, k4, k5, k6, k7, k8, k9, k10, k11, k12, k13, k14, k15, k16, eq_self, decide_true, Bool.and_true, Bool.and_self]
      exact hK _
  iterate 4 (apply aops_step (by decide) rfl; · (intro K hK; simp (disch := first | omega | decide) only [go_sem, k1, k2, k3, k4, k5, k6, k7, k8, k9, k10, k11, k12, k13, k14, k15, k16, eq_self, decide_true, Bool.and_true, Bool.and_self]; exact hK _))
  apply aops_step (by decide) rfl
  · intro K hK
    simp (disch := first | omega | decide) only [go_sem, act_alloc_t ti56, List.map, k1, k2, k3, k4, k5, k6, k7, k8, k9, k10, k11, k12, k13, k14, k15, k16, eq_self, decide_true, Bool.and_true, Bool.and_self]
    exact hK _
  iterate 1 (apply aops_step (by decide) rfl; · (intro K hK; simp (disch := first | omega | decide) only [go_sem, k1, k2, k3, k4, k5, k6, k7, k8, k9, k10, k11, k12, k13, k14, k15, k16, eq_self, decide_true, Bool.and_true, Bool.and_self]; exact hK _))
  apply aops_step0 rfl
  · intro K hK
    simp (disch := first | omega | decide) only [go_sem, act_store_t ti56, List.map, k1, k2, k3, k4, k5, k6, k7, k8, k9, k10, k11, k12, k13, k14, k15, k16, eq_self, decide_true, Bool.and_true, Bool.and_self]
    first | rw [mwp_store_c (by simp (disch := first | omega | decide) only [go_sem, k1, k2, k3, k4, k5, k6, k7, k8, k9, k10, k11, k12, k13, k14, k15, k16, eq_self, decide_true, Bool.and_true, Bool.and_self]; rfl) (by rfl) (by rfl) (by rfl) (by simp)] | rw [mwp_aStore_map (by simp (disch := first | omega | decide) only [go_sem, k1, k2, k3, k4, k5, k6, k7, k8, k9, k10, k11, k12, k13, k14, k15, k16, eq_self, decide_true, Bool.and_true, Bool.and_self]; rfl) (by first | omega | (simp; omega)) (fun _ => rfl) rfl rfl (fun _ => rfl)] | skip
    try simp only [setAt, cellsL, cellsOf_agg, cellsOf_base, List.map_cons, List.map_nil, List.set_cons_zero, List.set_cons_succ, Nat.reduceAdd, Nat.zero_add]
    exact hK _
  iterate 1 (apply aops_step (by decide) rfl; · (intro K hK; simp (disch := first | omega | decide) only [go_sem, k1, k2, k3, k4, k5, k6, k7, k8, k9, k10, k11, k12, k13, k14, k15, k16, eq_self, decide_true, Bool.and_true, Bool.and_self]; exact hK _))
  refine aops_nil ?_
  refine AW.seq ?_
  refine AW.region (cfg := cfg) ?_
  iterate 3 (apply aops_step (by decide) rfl; · (intro K hK; simp (disch := first | omega | decide) only [go_sem, k1, k2, k3, k4, k5, k6, k7, k8, k9, k10, k11, k12, k13, k14, k15, k16, eq_self, decide_true, Bool.and_true, Bool.and_self]; exact hK _))
  apply aops_merge' (by decide) (by first | exact want_of (d := 41) rfl (by simp (disch := first | omega | decide) only [go_sem, opn_cond, k1, k2, k3, k4, k5, k6, k7, k8, k9, k10, k11, k12, k13, k14, k15, k16, eq_self, decide_true, Bool.and_true, Bool.and_self]; rfl) | exact want_of_cond (d := 41) rfl (by simp (disch := first | omega | decide) only [go_sem, opn_cond, k1, k2, k3, k4, k5, k6, k7, k8, k9, k10, k11, k12, k13, k14, k15, k16, eq_self, decide_true, Bool.and_true, Bool.and_self]; rfl))
  · intro hc K hK
    have hc2 := hc
    simp only [beq_iff_eq, decide_eq_true_eq, decide_eq_false_iff_not, Bool.or_eq_true, Bool.and_eq_true, Bool.or_eq_false_iff, Bool.and_eq_false_iff] at hc2
    simp (disch := first | omega | decide) only [go_sem, opn_cond, hc, if_true, k1, k2, k3, k4, k5, k6, k7, k8, k9, k10, k11, k12, k13, k14, k15, k16, eq_self, decide_true, Bool.and_true, Bool.and_self]
    exact hK _
  apply aops_merge' (by decide) (by first | exact want_of (d := 41) rfl (by simp (disch := first | omega | decide) only [go_sem, opn_cond, k1, k2, k3, k4, k5, k6, k7, k8, k9, k10, k11, k12, k13, k14, k15, k16, eq_self, decide_true, Bool.and_true, Bool.and_self]; rfl) | exact want_of_cond (d := 41) rfl (by simp (disch := first | omega | decide) only [go_sem, opn_cond, k1, k2, k3, k4, k5, k6, k7, k8, k9, k10, k11, k12, k13, k14, k15, k16, eq_self, decide_true, Bool.and_true, Bool.and_self]; rfl))
  · intro hc K hK
    have hc2 := hc
    simp only [beq_iff_eq, decide_eq_true_eq, decide_eq_false_iff_not, Bool.or_eq_true, Bool.and_eq_true, Bool.or_eq_false_iff, Bool.and_eq_false_iff] at hc2
    simp (disch := first | omega | decide) only [go_sem, opn_cond, hc, if_true, k1, k2, k3, k4, k5, k6, k7, k8, k9, k10, k11, k12, k13, k14, k15, k16, eq_self, decide_true, Bool.and_true, Bool.and_self]
    exact hK _
  iterate 2 (apply aops_step (by decide) rfl; · (intro K hK; simp (disch := first | omega | decide) only [go_sem, k1, k2, k3, k4, k5, k6, k7, k8, k9, k10, k11, k12, k13, k14, k15, k16, eq_self, decide_true, Bool.and_true, Bool.and_self]; exact hK _))
  apply aops_merge' (by decide) (by first | exact want_of (d := 45) rfl (by simp (disch := first | omega | decide) only [go_sem, opn_cond, k1, k2, k3, k4, k5, k6, k7, k8, k9, k10, k11, k12, k13, k14, k15, k16, eq_self, decide_true, Bool.and_true, Bool.and_self]; rfl) | exact want_of_cond (d := 45) rfl (by simp (disch := first | omega | decide) only [go_sem, opn_cond, k1, k2, k3, k4, k5, k6, k7, k8, k9, k10, k11, k12, k13, k14, k15, k16, eq_self, decide_true, Bool.and_true, Bool.and_self]; rfl))
  · intro hc K hK
    have hc2 := hc
    simp only [beq_iff_eq, decide_eq_true_eq, decide_eq_false_iff_not, Bool.or_eq_true, Bool.and_eq_true, Bool.or_eq_false_iff, Bool.and_eq_false_iff] at hc2
    simp (disch := first | omega | decide) only [go_sem, opn_cond, hc, if_true, k1, k2, k3, k4, k5, k6, k7, k8, k9, k10, k11, k12, k13, k14, k15, k16, eq_self, decide_true, Bool.and_true, Bool.and_self]
    exact hK _
  apply aops_merge' (by decide) (by first | exact want_of (d := 45) rfl (by simp (disch := first | omega | decide) only [go_sem, opn_cond, k1, k2, k3, k4, k5, k6, k7, k8, k9, k10, k11, k12, k13, k14, k15, k16, eq_self, decide_true, Bool.and_true, Bool.and_self]; rfl) | exact want_of_cond (d := 45) rfl (by simp (disch := first | omega | decide) only [go_sem, opn_cond, k1, k2, k3, k4, k5, k6, k7, k8, k9, k10, k11, k12, k13, k14, k15, k16, eq_self, decide_true, Bool.and_true, Bool.and_self]; rfl))
  · intro hc K hK
    have hc2 := hc
    simp only [beq_iff_eq, decide_eq_true_eq, decide_eq_false_iff_not, Bool.or_eq_true, Bool.and_eq_true, Bool.or_eq_false_iff, Bool.and_eq_false_iff] at hc2
    simp (disch := first | omega | decide) only [go_sem, opn_cond, hc, if_true, k1, k2, k3, k4, k5, k6, k7, k8, k9, k10, k11, k12, k13, k14, k15, k16, eq_self, decide_true, Bool.and_true, Bool.and_self]
    exact hK _
  iterate 2 (apply aops_step (by decide) rfl; · (intro K hK; simp (disch := first | omega | decide) only [go_sem, k1, k2, k3, k4, k5, k6, k7, k8, k9, k10, k11, k12, k13, k14, k15, k16, eq_self, decide_true, Bool.and_true, Bool.and_self]; exact hK _))
  apply aops_merge' (by decide) (by first | exact want_of (d := 49) rfl (by simp (disch := first | omega | decide) only [go_sem, opn_cond, k1, k2, k3, k4, k5, k6, k7, k8, k9, k10, k11, k12, k13, k14, k15, k16, eq_self, decide_true, Bool.and_true, Bool.and_self]; rfl) | exact want_of_cond (d := 49) rfl (by simp (disch := first | omega | decide) only [go_sem, opn_cond, k1, k2, k3, k4, k5, k6, k7, k8, k9, k10, k11, k12, k13, k14, k15, k16, eq_self, decide_true, Bool.and_true, Bool.and_self]; rfl))
  · intro hc K hK
    have hc2 := hc
    simp only [beq_iff_eq, decide_eq_true_eq, decide_eq_false_iff_not, Bool.or_eq_true, Bool.and_eq_true, Bool.or_eq_false_iff, Bool.and_eq_false_iff] at hc2
    simp (disch := first | omega | decide) only [go_sem, opn_cond, hc, if_true, k1, k2, k3, k4, k5, k6, k7, k8, k9, k10, k11, k12, k13, k14, k15, k16, eq_self, decide_true, Bool.and_true, Bool.and_self]
    exact hK _
  apply aops_merge' (by decide) (by first | exact want_of (d := 49) rfl (by simp (disch := first | omega | decide) only [go_sem, opn_cond, k1, k2, k3, k4, k5, k6, k7, k8, k9, k10, k11, k12, k13, k14, k15, k16, eq_self, decide_true, Bool.and_true, Bool.and_self]; rfl) | exact want_of_cond (d := 49) rfl (by simp (disch := first | omega | decide) only [go_sem, opn_cond, k1, k2, k3, k4, k5, k6, k7, k8, k9, k10, k11, k12, k13, k14, k15, k16, eq_self, decide_true, Bool.and_true, Bool.and_self]; rfl))
  · intro hc K hK
    have hc2 := hc
    simp only [beq_iff_eq, decide_eq_true_eq, decide_eq_false_iff_not, Bool.or_eq_true, Bool.and_eq_true, Bool.or_eq_false_iff, Bool.and_eq_false_iff] at hc2
    simp (disch := first | omega | decide) only [go_sem, opn_cond, hc, if_true, k1, k2, k3, k4, k5, k6, k7, k8, k9, k10, k11, k12, k13, k14, k15, k16, eq_self, decide_true, Bool.and_true, Bool.and_self]
    exact hK _
  iterate 2 (apply aops_step (by decide) rfl; · (intro K hK; simp (disch := first | omega | decide) only [go_sem, k1, k2, k3, k4, k5, k6, k7, k8, k9, k10, k11, k12, k13, k14, k15, k16, eq_self, decide_true, Bool.and_true, Bool.and_self]; exact hK _))
  apply aops_merge' (by decide) (by first | exact want_of (d := 53) rfl (by simp (disch := first | omega | decide) only [go_sem, opn_cond, k1, k2, k3, k4, k5, k6, k7, k8, k9, k10, k11, k12, k13, k14, k15, k16, eq_self, decide_true, Bool.and_true, Bool.and_self]; rfl) | exact want_of_cond (d := 53) rfl (by simp (disch := first | omega | decide) only [go_sem, opn_cond, k1, k2, k3, k4, k5, k6, k7, k8, k9, k10, k11, k12, k13, k14, k15, k16, eq_self, decide_true, Bool.and_true, Bool.and_self]; rfl))
  · intro hc K hK
    have hc2 := hc
    simp only [beq_iff_eq, decide_eq_true_eq, decide_eq_false_iff_not, Bool.or_eq_true, Bool.and_eq_true, Bool.or_eq_false_iff, Bool.and_eq_false_iff] at hc2
    simp (disch := first | omega | decide) only [go_sem, opn_cond, hc, if_true, k1, k2, k3, k4, k5, k6, k7, k8, k9, k10, k11, k12, k13, k14, k15, k16, eq_self, decide_true, Bool.and_true, Bool.and_self]
    exact hK _
  apply aops_merge' (by decide) (by first | exact want_of (d := 53) rfl (by simp (disch := first | omega | decide) only [go_sem, opn_cond, k1, k2, k3, k4, k5, k6, k7, k8, k9, k10, k11, k12, k13, k14, k15, k16, eq_self, decide_true, Bool.and_true, Bool.and_self]; rfl) | exact want_of_cond (d := 53) rfl (by simp (disch := first | omega | decide) only [go_sem, opn_cond, k1, k2, k3, k4, k5, k6, k7, k8, k9, k10, k11, k12, k13, k14, k15, k16, eq_self, decide_true, Bool.and_true, Bool.and_self]; rfl))
  · intro hc K hK
    have hc2 := hc
    simp only [beq_iff_eq, decide_eq_true_eq, decide_eq_false_iff_not, Bool.or_eq_true, Bool.and_eq_true, Bool.or_eq_false_iff, Bool.and_eq_false_iff] at hc2
    simp (disch := first | omega | decide) only [go_sem, opn_cond, hc, if_true, k1, k2, k3, k4, k5, k6, k7, k8, k9, k10, k11, k12, k13, k14, k15, k16, eq_self, decide_true, Bool.and_true, Bool.and_self]
    exact hK _
  iterate 2 (apply aops_step (by decide) rfl; · (intro K hK; simp (disch := first | omega | decide) only [go_sem, k1, k2, k3, k4, k5, k6, k7, k8, k9, k10, k11, k12, k13, k14, k15, k16, eq_self, decide_true, Bool.and_true, Bool.and_self]; exact hK _))
  apply aops_merge' (by decide) (by first | exact want_of (d := 57) rfl (by simp (disch := first | omega | decide) only [go_sem, opn_cond, k1, k2, k3, k4, k5, k6, k7, k8, k9, k10, k11, k12, k13, k14, k15, k16, eq_self, decide_true, Bool.and_true, Bool.and_self]; rfl) | exact want_of_cond (d := 57) rfl (by simp (disch := first | omega | decide) only [go_sem, opn_cond, k1, k2, k3, k4, k5, k6, k7, k8, k9, k10, k11, k12, k13, k14, k15, k16, eq_self, decide_true, Bool.and_true, Bool.and_self]; rfl))
  · intro hc K hK
    have hc2 := hc
    simp only [beq_iff_eq, decide_eq_true_eq, decide_eq_false_iff_not, Bool.or_eq_true, Bool.and_eq_true, Bool.or_eq_false_iff, Bool.and_eq_false_iff] at hc2
    simp (disch := first | omega | decide) only [go_sem, opn_cond, hc, if_true, k1, k2, k3, k4, k5, k6, k7, k8, k9, k10, k11, k12, k13, k14, k15, k16, eq_self, decide_true, Bool.and_true, Bool.and_self]
    exact hK _
  apply aops_merge' (by decide) (by first | exact want_of (d := 57) rfl (by simp (disch := first | omega | decide) only [go_sem, opn_cond, k1, k2, k3, k4, k5, k6, k7, k8, k9, k10, k11, k12, k13, k14, k15, k16, eq_self, decide_true, Bool.and_true, Bool.and_self]; rfl) | exact want_of_cond (d := 57) rfl (by simp (disch := first | omega | decide) only [go_sem, opn_cond, k1, k2, k3, k4, k5, k6, k7, k8, k9, k10, k11, k12, k13, k14, k15, k16, eq_self, decide_true, Bool.and_true, Bool.and_self]; rfl))
  · intro hc K hK
    have hc2 := hc
    simp only [beq_iff_eq, decide_eq_true_eq, decide_eq_false_iff_not, Bool.or_eq_true, Bool.and_eq_true, Bool.or_eq_false_iff, Bool.and_eq_false_iff] at hc2
    simp (disch := first | omega | decide) only [go_sem, opn_cond, hc, if_true, k1, k2, k3, k4, k5, k6, k7, k8, k9, k10, k11, k12, k13, k14, k15, k16, eq_self, decide_true, Bool.and_true, Bool.and_self]
    exact hK _
  iterate 2 (apply aops_step (by decide) rfl; · (intro K hK; simp (disch := first | omega | decide) only [go_sem, k1, k2, k3, k4, k5, k6, k7, k8, k9, k10, k11, k12, k13, k14, k15, k16, eq_self, decide_true, Bool.and_true, Bool.and_self]; exact hK _))
  apply aops_merge' (by decide) (by first | exact want_of (d := 61) rfl (by simp (disch := first | omega | decide) only [go_sem, opn_cond, k1, k2, k3, k4, k5, k6, k7, k8, k9, k10, k11, k12, k13, k14, k15, k16, eq_self, decide_true, Bool.and_true, Bool.and_self]; rfl) | exact want_of_cond (d := 61) rfl (by simp (disch := first | omega | decide) only [go_sem, opn_cond, k1, k2, k3, k4, k5, k6, k7, k8, k9, k10, k11, k12, k13, k14, k15, k16, eq_self, decide_true, Bool.and_true, Bool.and_self]; rfl))
  · intro hc K hK
    have hc2 := hc
    simp only [beq_iff_eq, decide_eq_true_eq, decide_eq_false_iff_not, Bool.or_eq_true, Bool.and_eq_true, Bool.or_eq_false_iff, Bool.and_eq_false_iff] at hc2
    simp (disch := first | omega | decide) only [go_sem, opn_cond, hc, if_true, k1, k2, k3, k4, k5, k6, k7, k8, k9, k10, k11, k12, k13, k14, k15, k16, eq_self, decide_true, Bool.and_true, Bool.and_self]
    exact hK _
  apply aops_merge' (by decide) (by first | exact want_of (d := 61) rfl (by simp (disch := first | omega | decide) only [go_sem, opn_cond, k1, k2, k3, k4, k5, k6, k7, k8, k9, k10, k11, k12, k13, k14, k15, k16, eq_self, decide_true, Bool.and_true, Bool.and_self]; rfl) | exact want_of_cond (d := 61) rfl (by simp (disch := first | omega | decide) only [go_sem, opn_cond, k1, k2, k3, k4, k5, k6, k7, k8, k9, k10, k11, k12, k13, k14, k15, k16, eq_self, decide_true, Bool.and_true, Bool.and_self]; rfl))
  · intro hc K hK
    have hc2 := hc
    simp only [beq_iff_eq, decide_eq_true_eq, decide_eq_false_iff_not, Bool.or_eq_true, Bool.and_eq_true, Bool.or_eq_false_iff, Bool.and_eq_false_iff] at hc2
    simp (disch := first | omega | decide) only [go_sem, opn_cond, hc, if_true, k1, k2, k3, k4, k5, k6, k7, k8, k9, k10, k11, k12, k13, k14, k15, k16, eq_self, decide_true, Bool.and_true, Bool.and_self]
    exact hK _
  iterate 2 (apply aops_step (by decide) rfl; · (intro K hK; simp (disch := first | omega | decide) only [go_sem, k1, k2, k3, k4, k5, k6, k7, k8, k9, k10, k11, k12, k13, k14, k15, k16, eq_self, decide_true, Bool.and_true, Bool.and_self]; exact hK _))
  refine aops_nil ?_
  refine AW.ret ?_
  refine ⟨.inr rfl, ?_⟩
  refine leaves_tmp1 0 rfl ?_ (by first | rfl | exact hG)
  simp (disch := first | omega | decide) only [go_sem, k1, k2, k3, k4, k5, k6, k7, k8, k9, k10, k11, k12, k13, k14, k15, k16, eq_self, decide_true, Bool.and_true, Bool.and_self]

end Go.Vai.S
