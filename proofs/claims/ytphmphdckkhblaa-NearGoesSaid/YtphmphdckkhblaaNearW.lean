import Derived.Test.YtphmphdckkhblaaProg
import Derived.Test.YtphmphdckkhblaaVaiD
namespace Go.Vai.N
open Go.Proofs Go.Vai
set_option linter.unusedSimpArgs false
set_option linter.unusedVariables false
theorem ti47 : tiOf Try.prog 47 = some ⟨8, 56, [.base (.int .i64 0), .base (.int .i64 0), .base (.int .i64 0), .base (.int .i64 0), .base (.bool false), .base (.bool false), .base (.int .i64 0), .base (.bool false)], true⟩ := by kernel_rfl
theorem fo47_0 : fieldOf Try.prog 47 0 = some (0, 1) := by kernel_rfl
theorem ti3 : tiOf Try.prog 3 = some ⟨1, 8, [.base (.int .i64 0)], false⟩ := by kernel_rfl
theorem fo47_1 : fieldOf Try.prog 47 1 = some (1, 1) := by kernel_rfl
theorem fo47_2 : fieldOf Try.prog 47 2 = some (2, 1) := by kernel_rfl
theorem fo47_3 : fieldOf Try.prog 47 3 = some (3, 1) := by kernel_rfl
theorem fo47_6 : fieldOf Try.prog 47 6 = some (6, 1) := by kernel_rfl
theorem fo47_4 : fieldOf Try.prog 47 4 = some (4, 1) := by kernel_rfl
theorem ti4 : tiOf Try.prog 4 = some ⟨1, 1, [.base (.bool false)], false⟩ := by kernel_rfl
theorem fo47_5 : fieldOf Try.prog 47 5 = some (5, 1) := by kernel_rfl
theorem fo47_7 : fieldOf Try.prog 47 7 = some (7, 1) := by kernel_rfl
theorem pl47 : placesOf Try.prog 47 = some [(0, 1), (1, 1), (2, 1), (3, 1), (4, 1), (5, 1), (6, 1), (7, 1)] := by kernel_rfl

def cfg : Cfg := { pure := fun _ => true, xfer := fun _ => false, scalar := fun f => !([63, 67, 40, 41, 42, 43, 27, 31].contains f) }
structure Near where
  of : Int
  co : Int
  bo : Int
  ep : Int
  he : Bool
  fu : Bool
  ag : Int
  go : Bool
  deriving DecidableEq
def wi (n lo hi : Int) : Bool := decide (n ≥ lo) && decide (n ≤ hi)
def okA (n : Near) : Bool := ((((wi n.of 1 64 && wi n.co 0 1073741824) && wi n.bo 0 1073741824) && wi n.ep 0 1073741824) && wi n.ag 0 4)
def bad (n : Near) : Bool := ((((n.he && (decide (n.bo = 0) || decide (n.co = 0))) || (!n.he && decide (n.ag > 0))) || (n.fu && !n.he)) || (n.go && !n.fu)) || !okA n
def chk (n : Near) : Int := if bad n then 1 else 0
def zn : Near := ⟨0, 0, 0, 0, false, false, 0, false⟩
def gone (n : Near) : Near := { n with fu := false, go := false }
def lost (n : Near) : Near := { gone n with he := false, ag := 0 }
def hBad (n : Near) (b : Int) : Bool := bad n || !wi b 1 1073741824
def hStay (n : Near) (b : Int) : Bool := decide (b < n.bo) || decide (n.co = 0)
def hDown (n : Near) (b : Int) (h : Bool) : Bool := n.fu && (decide (b > n.bo) || !h)
def h1 (n : Near) (b : Int) (h : Bool) : Near := { (if hDown n b h then gone n else n) with bo := b, he := true, ag := 0 }
def hUp (n : Near) (b : Int) (h : Bool) : Bool := h && !(h1 n b h).fu
def h2 (n : Near) (b : Int) (h : Bool) : Near := if hUp n b h then { h1 n b h with fu := true } else h1 n b h
def helloN (n : Near) (b : Int) (h : Bool) : Near := if hBad n b then zn else if hStay n b then n else h2 n b h
def helloD (n : Near) (b : Int) (h : Bool) : Bool := if hBad n b then false else if hStay n b then false else hDown n b h
def helloU (n : Near) (b : Int) (h : Bool) : Bool := if hBad n b then false else if hStay n b then false else hUp n b h
def helloE (n : Near) (b : Int) : Int := if hBad n b then 1 else 0
def rStay (n : Near) (b : Int) : Bool := decide (n.co = 0) || decide (b < n.bo)
def rKeep (n : Near) (b : Int) (h : Bool) : Bool := (n.fu && h) && decide (b = n.bo)
def rHelloN (n : Near) (b : Int) (h : Bool) : Near := if rStay n b then n else if rKeep n b h then ⟨n.of, n.co, b, n.ep, true, h, 0, n.go⟩ else ⟨n.of, n.co, b, n.ep, true, h, 0, false⟩
def rHelloD (n : Near) (b : Int) (h : Bool) : Bool := if rStay n b then false else if rKeep n b h then false else n.fu
def rHelloU (n : Near) (b : Int) (h : Bool) : Bool := if rStay n b then false else if rKeep n b h then false else h
def tickN (n : Near) : Near := if bad n then zn else if n.he then if n.ag = 4 then lost n else { n with ag := n.ag + 1 } else n
def tickD (n : Near) : Bool := if bad n then false else if n.he then if n.ag = 4 then n.fu else false else false
def costBad (n : Near) (c : Int) : Bool := bad n || !wi c 0 1073741824
def costN (n : Near) (c : Int) : Near := if costBad n c then zn else if c = 0 then { lost n with co := c } else { n with co := c }
def costD (n : Near) (c : Int) : Bool := if costBad n c then false else if c = 0 then n.fu else false
def costE (n : Near) (c : Int) : Int := if costBad n c then 1 else 0
def rTickN (n : Near) : Near := if n.he then if n.ag ≥ 4 then ⟨n.of, n.co, n.bo, n.ep, false, false, 0, false⟩ else { n with ag := n.ag + 1 } else n
def rTickD (n : Near) : Bool := if n.he then if n.ag ≥ 4 then n.fu else false else false
def rCostN (n : Near) (c : Int) : Near := if c = 0 then ⟨n.of, 0, n.bo, n.ep, false, false, 0, false⟩ else { n with co := c }
def rCostD (n : Near) (c : Int) : Bool := if c = 0 then n.fu else false
theorem okA_range {n : Near} (h : bad n = false) : (1 ≤ n.of ∧ n.of ≤ 64) ∧ (0 ≤ n.co ∧ n.co ≤ 1073741824) ∧ (0 ≤ n.bo ∧ n.bo ≤ 1073741824) ∧ (0 ≤ n.ep ∧ n.ep ≤ 1073741824) ∧ 0 ≤ n.ag ∧ n.ag ≤ 4 := by
  simp [bad, okA, wi] at h; omega
theorem chk_0 {n : Near} (h : chk n = 0) : bad n = false := by
  unfold chk at h
  cases hb : bad n with
  | false => rfl
  | true => rw [hb] at h; simp at h

set_option maxHeartbeats 4000000 in
set_option maxRecDepth 100000 in
theorem good_within (n lo hi : Int) : Good Try.prog 62 [(i64 n, false), (i64 lo, false), (i64 hi, false)] [] [(.b (wi n lo hi), false)] [] := by
  refine good_of_body2 15 Try.func62 rfl rfl rfl (by simp) ?_
  intro s m ha hr hv hG
  have f0 : s 0 = .v (i64 n) := ha 0 _ rfl
  have f1 : s 1 = .v (i64 lo) := ha 1 _ rfl
  have f2 : s 2 = .v (i64 hi) := ha 2 _ rfl
  clear ha
  refine AW.seq ?_
  refine AW.region (cfg := cfg) ?_
  iterate 1 (apply aops_step (by decide) rfl; · (intro K hK; simp (disch := first | omega | decide) only [go_sem, f0, f1, f2]; exact hK _))
  refine aops_nil ?_
  refine AW.seq ?_
  refine AW.region (cfg := cfg) ?_
  iterate 4 (apply aops_step (by decide) rfl; · (intro K hK; simp (disch := first | omega | decide) only [go_sem, f0, f1, f2]; exact hK _))
  apply aops_merge' (by decide) (by first | exact want_of (d := 10) rfl (by simp (disch := first | omega | decide) only [go_sem, f0, f1, f2, opn_cond]; rfl) | exact want_of_cond (d := 10) rfl (by simp (disch := first | omega | decide) only [go_sem, f0, f1, f2, opn_cond]; rfl))
  · intro hc K hK
    have hc2 := hc
    simp only [beq_iff_eq, decide_eq_true_eq, decide_eq_false_iff_not, Bool.or_eq_true, Bool.and_eq_true, Bool.or_eq_false_iff, Bool.and_eq_false_iff] at hc2
    simp (disch := first | omega | decide) only [go_sem, f0, f1, f2, opn_cond, hc, if_true]
    exact hK _
  apply aops_merge' (by decide) (by first | exact want_of (d := 10) rfl (by simp (disch := first | omega | decide) only [go_sem, f0, f1, f2, opn_cond]; rfl) | exact want_of_cond (d := 10) rfl (by simp (disch := first | omega | decide) only [go_sem, f0, f1, f2, opn_cond]; rfl))
  · intro hc K hK
    have hc2 := hc
    simp only [beq_iff_eq, decide_eq_true_eq, decide_eq_false_iff_not, Bool.or_eq_true, Bool.and_eq_true, Bool.or_eq_false_iff, Bool.and_eq_false_iff] at hc2
    simp (disch := first | omega | decide) only [go_sem, f0, f1, f2, opn_cond, hc, if_true]
    exact hK _
  apply aops_merge' (by decide) (by first | exact want_of (d := 10) rfl (by simp (disch := first | omega | decide) only [go_sem, f0, f1, f2, opn_cond]; rfl) | exact want_of_cond (d := 10) rfl (by simp (disch := first | omega | decide) only [go_sem, f0, f1, f2, opn_cond]; rfl))
  · intro hc K hK
    have hc2 := hc
    simp only [beq_iff_eq, decide_eq_true_eq, decide_eq_false_iff_not, Bool.or_eq_true, Bool.and_eq_true, Bool.or_eq_false_iff, Bool.and_eq_false_iff] at hc2
    simp (disch := first | omega | decide) only [go_sem, f0, f1, f2, opn_cond, hc, if_true]
    exact hK _
  iterate 2 (apply aops_step (by decide) rfl; · (intro K hK; simp (disch := first | omega | decide) only [go_sem, f0, f1, f2]; exact hK _))
  refine aops_nil ?_
  refine AW.ret ?_
  refine ⟨.inr rfl, ?_⟩
  refine leaves_mwp2 (rs := [.tmp 6]) rfl ?_
  simp (config := {failIfUnchanged := false}) [giveL, srcOne, rehome, freezeN, sub, upd, opn, aLoad, loadL, giveOne, reify, reifyL, readL, readOne, Mwp, M.bind, Mem.set, setAt, cellsL, hG, f0, f1, f2, wi]
  all_goals first | done | omega | (simp_all; done) | (simp_all; omega) | grind

set_option maxHeartbeats 4000000 in
set_option maxRecDepth 100000 in
theorem good_Check (n : Near) : Good Try.prog 28 [(.agg [i64 (n).of, i64 (n).co, i64 (n).bo, i64 (n).ep, .b (n).he, .b (n).fu, i64 (n).ag, .b (n).go], false)] [] [(i64 (chk n), false)] [] := by
  refine good_of_body2 71 Try.func28 rfl rfl rfl (by simp) ?_
  intro s m ha hr hv hG
  have f0 : s 0 = .v (.agg [i64 (n).of, i64 (n).co, i64 (n).bo, i64 (n).ep, .b (n).he, .b (n).fu, i64 (n).ag, .b (n).go]) := ha 0 _ rfl
  clear ha
  refine AW.seq ?_
  refine AW.region (cfg := cfg) ?_
  apply aops_step (by decide) rfl
  · intro K hK
    simp (disch := first | omega | decide) only [go_sem, f0, act_box_t ti47, List.map]
    rw [settleL_vish _ _ (by rfl)]
    simp (disch := first | omega | decide) only [go_sem, f0, cellsL, List.map, List.length_cons, List.length_nil, Nat.reduceAdd, if_true]
    exact hK _
  iterate 1 (apply aops_step (by decide) rfl; · (intro K hK; simp (disch := first | omega | decide) only [go_sem, f0]; exact hK _))
  refine aops_nil ?_
  refine AW.seq ?_
  refine AW.region (cfg := cfg) ?_
  apply aops_step (by decide) rfl
  · intro K hK
    simp (disch := first | omega | decide) only [go_sem, f0, act_fieldAddr_t fo47_0, List.map]
    first | rw [mwp_fieldAddr_b (by simp (disch := first | omega | decide) only [go_sem, f0]; rfl)] | skip
    exact hK _
  apply aops_step (by decide) rfl
  · intro K hK
    simp (disch := first | omega | decide) only [go_sem, f0, act_load_t ti3, List.map]
    first | rw [mwp_load_i1 (by rfl)] | rw [mwp_load_g1 (by first | (rw [hG]; rfl) | rfl) (by rfl)] | rw [mwp_load_gs (by first | (rw [hG]; rfl) | rfl) (by simp)] | rw [mwp_load_bs (by simp (disch := first | omega | decide) only [go_sem, f0]; rfl) (by simp [setAt])] | rw [mwp_load_b1 (by simp (disch := first | omega | decide) only [go_sem, f0]; rfl) (by rfl)] | rw [mwp_aLoad_map (by simp (disch := first | omega | decide) only [go_sem, f0]; rfl) (by first | omega | (simp; omega)) (fun _ => rfl)] | rw [mwp_aLoad_e1 (by simp (disch := first | omega | decide) only [go_sem, f0]; rfl) (by simp) rfl] | skip
    exact hK _
  apply aops_step (by decide) rfl
  · intro K hK
    simp (disch := first | omega | decide) only [go_sem, f0, act_call, List.map]
    apply mwp_call_s rfl rfl rfl
    · intro Q hQ
      simp (disch := first | omega | decide) only [go_sem, f0, peekL, reifyL_nil, reifyL_cons, reify_v]
      first | exact hQ | ((first | rw [peek_own (by simp (disch := first | omega | decide) only [go_sem, f0, peekL]; rfl)] | rw [mwp_reify_own (by simp (disch := first | omega | decide) only [go_sem, f0, peekL]; rfl)]); exact hQ) | ((first | rw [peek_own (by simp (disch := first | omega | decide) only [go_sem, f0, peekL]; rfl)] | rw [mwp_reify_own (by simp (disch := first | omega | decide) only [go_sem, f0, peekL]; rfl)]); simp (disch := first | omega | decide) only [go_sem, f0, peekL]; (first | rw [peek_own (by simp (disch := first | omega | decide) only [go_sem, f0, peekL]; rfl)] | rw [mwp_reify_own (by simp (disch := first | omega | decide) only [go_sem, f0, peekL]; rfl)]); exact hQ) | ((first | rw [peek_own (by simp (disch := first | omega | decide) only [go_sem, f0, peekL]; rfl)] | rw [mwp_reify_own (by simp (disch := first | omega | decide) only [go_sem, f0, peekL]; rfl)]); simp (disch := first | omega | decide) only [go_sem, f0, peekL]; exact hQ)
    · exact good_within _ _ _
    · simp [-List.map_take, -List.map_drop, noPtrL, noPtr, noPtrL_bsl, noPtrL_map, sub]
    · rfl
    · exact hK _
  iterate 1 (apply aops_step (by decide) rfl; · (intro K hK; simp (disch := first | omega | decide) only [go_sem, f0]; exact hK _))
  apply aops_merge' (by decide) (by first | exact want_of (d := 7) rfl (by simp (disch := first | omega | decide) only [go_sem, f0, opn_cond]; rfl) | exact want_of_cond (d := 7) rfl (by simp (disch := first | omega | decide) only [go_sem, f0, opn_cond]; rfl))
  · intro hc K hK
    have hc2 := hc
    simp only [beq_iff_eq, decide_eq_true_eq, decide_eq_false_iff_not, Bool.or_eq_true, Bool.and_eq_true, Bool.or_eq_false_iff, Bool.and_eq_false_iff] at hc2
    simp (disch := first | omega | decide) only [go_sem, f0, opn_cond, hc, if_true, act_fieldAddr_t fo47_1]
    first | rw [mwp_fieldAddr_b (by simp (disch := first | omega | decide) only [go_sem, f0, opn_cond, hc, if_true]; rfl)] | skip
    exact hK _
  apply aops_merge' (by decide) (by first | exact want_of (d := 7) rfl (by simp (disch := first | omega | decide) only [go_sem, f0, opn_cond]; rfl) | exact want_of_cond (d := 7) rfl (by simp (disch := first | omega | decide) only [go_sem, f0, opn_cond]; rfl))
  · intro hc K hK
    have hc2 := hc
    simp only [beq_iff_eq, decide_eq_true_eq, decide_eq_false_iff_not, Bool.or_eq_true, Bool.and_eq_true, Bool.or_eq_false_iff, Bool.and_eq_false_iff] at hc2
    simp (disch := first | omega | decide) only [go_sem, f0, opn_cond, hc, if_true, act_load_t ti3]
    first | rw [mwp_load_i1 (by rfl)] | rw [mwp_load_g1 (by first | (rw [hG]; rfl) | rfl) (by rfl)] | rw [mwp_load_gs (by first | (rw [hG]; rfl) | rfl) (by simp)] | rw [mwp_load_bs (by simp (disch := first | omega | decide) only [go_sem, f0, opn_cond, hc, if_true]; rfl) (by simp [setAt])] | rw [mwp_load_b1 (by simp (disch := first | omega | decide) only [go_sem, f0, opn_cond, hc, if_true]; rfl) (by rfl)] | rw [mwp_aLoad_map (by simp (disch := first | omega | decide) only [go_sem, f0, opn_cond, hc, if_true]; rfl) (by first | omega | (simp; omega)) (fun _ => rfl)] | rw [mwp_aLoad_e1 (by simp (disch := first | omega | decide) only [go_sem, f0, opn_cond, hc, if_true]; rfl) (by simp) rfl] | skip
    exact hK _
  apply aops_merge' (by decide) (by first | exact want_of (d := 7) rfl (by simp (disch := first | omega | decide) only [go_sem, f0, opn_cond]; rfl) | exact want_of_cond (d := 7) rfl (by simp (disch := first | omega | decide) only [go_sem, f0, opn_cond]; rfl))
  · intro hc K hK
    have hc2 := hc
    simp only [beq_iff_eq, decide_eq_true_eq, decide_eq_false_iff_not, Bool.or_eq_true, Bool.and_eq_true, Bool.or_eq_false_iff, Bool.and_eq_false_iff] at hc2
    simp (disch := first | omega | decide) only [go_sem, f0, opn_cond, hc, if_true, act_call, List.map]
    apply mwp_call_s rfl rfl rfl
    · intro Q hQ
      simp (disch := first | omega | decide) only [go_sem, f0, opn_cond, hc, if_true, peekL, reifyL_nil, reifyL_cons, reify_v]
      first | exact hQ | ((first | rw [peek_own (by simp (disch := first | omega | decide) only [go_sem, f0, peekL]; rfl)] | rw [mwp_reify_own (by simp (disch := first | omega | decide) only [go_sem, f0, peekL]; rfl)]); exact hQ) | ((first | rw [peek_own (by simp (disch := first | omega | decide) only [go_sem, f0, peekL]; rfl)] | rw [mwp_reify_own (by simp (disch := first | omega | decide) only [go_sem, f0, peekL]; rfl)]); simp (disch := first | omega | decide) only [go_sem, f0, peekL]; (first | rw [peek_own (by simp (disch := first | omega | decide) only [go_sem, f0, peekL]; rfl)] | rw [mwp_reify_own (by simp (disch := first | omega | decide) only [go_sem, f0, peekL]; rfl)]); exact hQ) | ((first | rw [peek_own (by simp (disch := first | omega | decide) only [go_sem, f0, peekL]; rfl)] | rw [mwp_reify_own (by simp (disch := first | omega | decide) only [go_sem, f0, peekL]; rfl)]); simp (disch := first | omega | decide) only [go_sem, f0, peekL]; exact hQ)
    · exact good_within _ _ _
    · simp [-List.map_take, -List.map_drop, noPtrL, noPtr, noPtrL_bsl, noPtrL_map, sub]
    · rfl
    · exact hK _
  iterate 2 (apply aops_step (by decide) rfl; · (intro K hK; simp (disch := first | omega | decide) only [go_sem, f0]; exact hK _))
  apply aops_merge' (by decide) (by first | exact want_of (d := 12) rfl (by simp (disch := first | omega | decide) only [go_sem, f0, opn_cond]; rfl) | exact want_of_cond (d := 12) rfl (by simp (disch := first | omega | decide) only [go_sem, f0, opn_cond]; rfl))
  · intro hc K hK
    have hc2 := hc
    simp only [beq_iff_eq, decide_eq_true_eq, decide_eq_false_iff_not, Bool.or_eq_true, Bool.and_eq_true, Bool.or_eq_false_iff, Bool.and_eq_false_iff] at hc2
    simp (disch := first | omega | decide) only [go_sem, f0, opn_cond, hc, if_true, act_fieldAddr_t fo47_2]
    first | rw [mwp_fieldAddr_b (by simp (disch := first | omega | decide) only [go_sem, f0, opn_cond, hc, if_true]; rfl)] | skip
    exact hK _
  apply aops_merge' (by decide) (by first | exact want_of (d := 12) rfl (by simp (disch := first | omega | decide) only [go_sem, f0, opn_cond]; rfl) | exact want_of_cond (d := 12) rfl (by simp (disch := first | omega | decide) only [go_sem, f0, opn_cond]; rfl))
  · intro hc K hK
    have hc2 := hc
    simp only [beq_iff_eq, decide_eq_true_eq, decide_eq_false_iff_not, Bool.or_eq_true, Bool.and_eq_true, Bool.or_eq_false_iff, Bool.and_eq_false_iff] at hc2
    simp (disch := first | omega | decide) only [go_sem, f0, opn_cond, hc, if_true, act_load_t ti3]
    first | rw [mwp_load_i1 (by rfl)] | rw [mwp_load_g1 (by first | (rw [hG]; rfl) | rfl) (by rfl)] | rw [mwp_load_gs (by first | (rw [hG]; rfl) | rfl) (by simp)] | rw [mwp_load_bs (by simp (disch := first | omega | decide) only [go_sem, f0, opn_cond, hc, if_true]; rfl) (by simp [setAt])] | rw [mwp_load_b1 (by simp (disch := first | omega | decide) only [go_sem, f0, opn_cond, hc, if_true]; rfl) (by rfl)] | rw [mwp_aLoad_map (by simp (disch := first | omega | decide) only [go_sem, f0, opn_cond, hc, if_true]; rfl) (by first | omega | (simp; omega)) (fun _ => rfl)] | rw [mwp_aLoad_e1 (by simp (disch := first | omega | decide) only [go_sem, f0, opn_cond, hc, if_true]; rfl) (by simp) rfl] | skip
    exact hK _
  apply aops_merge' (by decide) (by first | exact want_of (d := 12) rfl (by simp (disch := first | omega | decide) only [go_sem, f0, opn_cond]; rfl) | exact want_of_cond (d := 12) rfl (by simp (disch := first | omega | decide) only [go_sem, f0, opn_cond]; rfl))
  · intro hc K hK
    have hc2 := hc
    simp only [beq_iff_eq, decide_eq_true_eq, decide_eq_false_iff_not, Bool.or_eq_true, Bool.and_eq_true, Bool.or_eq_false_iff, Bool.and_eq_false_iff] at hc2
    simp (disch := first | omega | decide) only [go_sem, f0, opn_cond, hc, if_true, act_call, List.map]
    apply mwp_call_s rfl rfl rfl
    · intro Q hQ
      simp (disch := first | omega | decide) only [go_sem, f0, opn_cond, hc, if_true, peekL, reifyL_nil, reifyL_cons, reify_v]
      first | exact hQ | ((first | rw [peek_own (by simp (disch := first | omega | decide) only [go_sem, f0, peekL]; rfl)] | rw [mwp_reify_own (by simp (disch := first | omega | decide) only [go_sem, f0, peekL]; rfl)]); exact hQ) | ((first | rw [peek_own (by simp (disch := first | omega | decide) only [go_sem, f0, peekL]; rfl)] | rw [mwp_reify_own (by simp (disch := first | omega | decide) only [go_sem, f0, peekL]; rfl)]); simp (disch := first | omega | decide) only [go_sem, f0, peekL]; (first | rw [peek_own (by simp (disch := first | omega | decide) only [go_sem, f0, peekL]; rfl)] | rw [mwp_reify_own (by simp (disch := first | omega | decide) only [go_sem, f0, peekL]; rfl)]); exact hQ) | ((first | rw [peek_own (by simp (disch := first | omega | decide) only [go_sem, f0, peekL]; rfl)] | rw [mwp_reify_own (by simp (disch := first | omega | decide) only [go_sem, f0, peekL]; rfl)]); simp (disch := first | omega | decide) only [go_sem, f0, peekL]; exact hQ)
    · exact good_within _ _ _
    · simp [-List.map_take, -List.map_drop, noPtrL, noPtr, noPtrL_bsl, noPtrL_map, sub]
    · rfl
    · exact hK _
  iterate 2 (apply aops_step (by decide) rfl; · (intro K hK; simp (disch := first | omega | decide) only [go_sem, f0]; exact hK _))
  apply aops_merge' (by decide) (by first | exact want_of (d := 17) rfl (by simp (disch := first | omega | decide) only [go_sem, f0, opn_cond]; rfl) | exact want_of_cond (d := 17) rfl (by simp (disch := first | omega | decide) only [go_sem, f0, opn_cond]; rfl))
  · intro hc K hK
    have hc2 := hc
    simp only [beq_iff_eq, decide_eq_true_eq, decide_eq_false_iff_not, Bool.or_eq_true, Bool.and_eq_true, Bool.or_eq_false_iff, Bool.and_eq_false_iff] at hc2
    simp (disch := first | omega | decide) only [go_sem, f0, opn_cond, hc, if_true, act_fieldAddr_t fo47_3]
    first | rw [mwp_fieldAddr_b (by simp (disch := first | omega | decide) only [go_sem, f0, opn_cond, hc, if_true]; rfl)] | skip
    exact hK _
  apply aops_merge' (by decide) (by first | exact want_of (d := 17) rfl (by simp (disch := first | omega | decide) only [go_sem, f0, opn_cond]; rfl) | exact want_of_cond (d := 17) rfl (by simp (disch := first | omega | decide) only [go_sem, f0, opn_cond]; rfl))
  · intro hc K hK
    have hc2 := hc
    simp only [beq_iff_eq, decide_eq_true_eq, decide_eq_false_iff_not, Bool.or_eq_true, Bool.and_eq_true, Bool.or_eq_false_iff, Bool.and_eq_false_iff] at hc2
    simp (disch := first | omega | decide) only [go_sem, f0, opn_cond, hc, if_true, act_load_t ti3]
    first | rw [mwp_load_i1 (by rfl)] | rw [mwp_load_g1 (by first | (rw [hG]; rfl) | rfl) (by rfl)] | rw [mwp_load_gs (by first | (rw [hG]; rfl) | rfl) (by simp)] | rw [mwp_load_bs (by simp (disch := first | omega | decide) only [go_sem, f0, opn_cond, hc, if_true]; rfl) (by simp [setAt])] | rw [mwp_load_b1 (by simp (disch := first | omega | decide) only [go_sem, f0, opn_cond, hc, if_true]; rfl) (by rfl)] | rw [mwp_aLoad_map (by simp (disch := first | omega | decide) only [go_sem, f0, opn_cond, hc, if_true]; rfl) (by first | omega | (simp; omega)) (fun _ => rfl)] | rw [mwp_aLoad_e1 (by simp (disch := first | omega | decide) only [go_sem, f0, opn_cond, hc, if_true]; rfl) (by simp) rfl] | skip
    exact hK _
  apply aops_merge' (by decide) (by first | exact want_of (d := 17) rfl (by simp (disch := first | omega | decide) only [go_sem, f0, opn_cond]; rfl) | exact want_of_cond (d := 17) rfl (by simp (disch := first | omega | decide) only [go_sem, f0, opn_cond]; rfl))
  · intro hc K hK
    have hc2 := hc
    simp only [beq_iff_eq, decide_eq_true_eq, decide_eq_false_iff_not, Bool.or_eq_true, Bool.and_eq_true, Bool.or_eq_false_iff, Bool.and_eq_false_iff] at hc2
    simp (disch := first | omega | decide) only [go_sem, f0, opn_cond, hc, if_true, act_call, List.map]
    apply mwp_call_s rfl rfl rfl
    · intro Q hQ
      simp (disch := first | omega | decide) only [go_sem, f0, opn_cond, hc, if_true, peekL, reifyL_nil, reifyL_cons, reify_v]
      first | exact hQ | ((first | rw [peek_own (by simp (disch := first | omega | decide) only [go_sem, f0, peekL]; rfl)] | rw [mwp_reify_own (by simp (disch := first | omega | decide) only [go_sem, f0, peekL]; rfl)]); exact hQ) | ((first | rw [peek_own (by simp (disch := first | omega | decide) only [go_sem, f0, peekL]; rfl)] | rw [mwp_reify_own (by simp (disch := first | omega | decide) only [go_sem, f0, peekL]; rfl)]); simp (disch := first | omega | decide) only [go_sem, f0, peekL]; (first | rw [peek_own (by simp (disch := first | omega | decide) only [go_sem, f0, peekL]; rfl)] | rw [mwp_reify_own (by simp (disch := first | omega | decide) only [go_sem, f0, peekL]; rfl)]); exact hQ) | ((first | rw [peek_own (by simp (disch := first | omega | decide) only [go_sem, f0, peekL]; rfl)] | rw [mwp_reify_own (by simp (disch := first | omega | decide) only [go_sem, f0, peekL]; rfl)]); simp (disch := first | omega | decide) only [go_sem, f0, peekL]; exact hQ)
    · exact good_within _ _ _
    · simp [-List.map_take, -List.map_drop, noPtrL, noPtr, noPtrL_bsl, noPtrL_map, sub]
    · rfl
    · exact hK _
  iterate 2 (apply aops_step (by decide) rfl; · (intro K hK; simp (disch := first | omega | decide) only [go_sem, f0]; exact hK _))
  apply aops_merge' (by decide) (by first | exact want_of (d := 22) rfl (by simp (disch := first | omega | decide) only [go_sem, f0, opn_cond]; rfl) | exact want_of_cond (d := 22) rfl (by simp (disch := first | omega | decide) only [go_sem, f0, opn_cond]; rfl))
  · intro hc K hK
    have hc2 := hc
    simp only [beq_iff_eq, decide_eq_true_eq, decide_eq_false_iff_not, Bool.or_eq_true, Bool.and_eq_true, Bool.or_eq_false_iff, Bool.and_eq_false_iff] at hc2
    simp (disch := first | omega | decide) only [go_sem, f0, opn_cond, hc, if_true, act_fieldAddr_t fo47_6]
    first | rw [mwp_fieldAddr_b (by simp (disch := first | omega | decide) only [go_sem, f0, opn_cond, hc, if_true]; rfl)] | skip
    exact hK _
  apply aops_merge' (by decide) (by first | exact want_of (d := 22) rfl (by simp (disch := first | omega | decide) only [go_sem, f0, opn_cond]; rfl) | exact want_of_cond (d := 22) rfl (by simp (disch := first | omega | decide) only [go_sem, f0, opn_cond]; rfl))
  · intro hc K hK
    have hc2 := hc
    simp only [beq_iff_eq, decide_eq_true_eq, decide_eq_false_iff_not, Bool.or_eq_true, Bool.and_eq_true, Bool.or_eq_false_iff, Bool.and_eq_false_iff] at hc2
    simp (disch := first | omega | decide) only [go_sem, f0, opn_cond, hc, if_true, act_load_t ti3]
    first | rw [mwp_load_i1 (by rfl)] | rw [mwp_load_g1 (by first | (rw [hG]; rfl) | rfl) (by rfl)] | rw [mwp_load_gs (by first | (rw [hG]; rfl) | rfl) (by simp)] | rw [mwp_load_bs (by simp (disch := first | omega | decide) only [go_sem, f0, opn_cond, hc, if_true]; rfl) (by simp [setAt])] | rw [mwp_load_b1 (by simp (disch := first | omega | decide) only [go_sem, f0, opn_cond, hc, if_true]; rfl) (by rfl)] | rw [mwp_aLoad_map (by simp (disch := first | omega | decide) only [go_sem, f0, opn_cond, hc, if_true]; rfl) (by first | omega | (simp; omega)) (fun _ => rfl)] | rw [mwp_aLoad_e1 (by simp (disch := first | omega | decide) only [go_sem, f0, opn_cond, hc, if_true]; rfl) (by simp) rfl] | skip
    exact hK _
  apply aops_merge' (by decide) (by first | exact want_of (d := 22) rfl (by simp (disch := first | omega | decide) only [go_sem, f0, opn_cond]; rfl) | exact want_of_cond (d := 22) rfl (by simp (disch := first | omega | decide) only [go_sem, f0, opn_cond]; rfl))
  · intro hc K hK
    have hc2 := hc
    simp only [beq_iff_eq, decide_eq_true_eq, decide_eq_false_iff_not, Bool.or_eq_true, Bool.and_eq_true, Bool.or_eq_false_iff, Bool.and_eq_false_iff] at hc2
    simp (disch := first | omega | decide) only [go_sem, f0, opn_cond, hc, if_true, act_call, List.map]
    apply mwp_call_s rfl rfl rfl
    · intro Q hQ
      simp (disch := first | omega | decide) only [go_sem, f0, opn_cond, hc, if_true, peekL, reifyL_nil, reifyL_cons, reify_v]
      first | exact hQ | ((first | rw [peek_own (by simp (disch := first | omega | decide) only [go_sem, f0, peekL]; rfl)] | rw [mwp_reify_own (by simp (disch := first | omega | decide) only [go_sem, f0, peekL]; rfl)]); exact hQ) | ((first | rw [peek_own (by simp (disch := first | omega | decide) only [go_sem, f0, peekL]; rfl)] | rw [mwp_reify_own (by simp (disch := first | omega | decide) only [go_sem, f0, peekL]; rfl)]); simp (disch := first | omega | decide) only [go_sem, f0, peekL]; (first | rw [peek_own (by simp (disch := first | omega | decide) only [go_sem, f0, peekL]; rfl)] | rw [mwp_reify_own (by simp (disch := first | omega | decide) only [go_sem, f0, peekL]; rfl)]); exact hQ) | ((first | rw [peek_own (by simp (disch := first | omega | decide) only [go_sem, f0, peekL]; rfl)] | rw [mwp_reify_own (by simp (disch := first | omega | decide) only [go_sem, f0, peekL]; rfl)]); simp (disch := first | omega | decide) only [go_sem, f0, peekL]; exact hQ)
    · exact good_within _ _ _
    · simp [-List.map_take, -List.map_drop, noPtrL, noPtr, noPtrL_bsl, noPtrL_map, sub]
    · rfl
    · exact hK _
  iterate 2 (apply aops_step (by decide) rfl; · (intro K hK; simp (disch := first | omega | decide) only [go_sem, f0]; exact hK _))
  refine aops_nil ?_
  refine AW.seq ?_
  refine AW.seq ?_
  refine AW.region (cfg := cfg) ?_
  apply aops_step (by decide) rfl
  · intro K hK
    simp (disch := first | omega | decide) only [go_sem, f0, act_fieldAddr_t fo47_4, List.map]
    first | rw [mwp_fieldAddr_b (by simp (disch := first | omega | decide) only [go_sem, f0]; rfl)] | skip
    exact hK _
  apply aops_step (by decide) rfl
  · intro K hK
    simp (disch := first | omega | decide) only [go_sem, f0, act_load_t ti4, List.map]
    first | rw [mwp_load_i1 (by rfl)] | rw [mwp_load_g1 (by first | (rw [hG]; rfl) | rfl) (by rfl)] | rw [mwp_load_gs (by first | (rw [hG]; rfl) | rfl) (by simp)] | rw [mwp_load_bs (by simp (disch := first | omega | decide) only [go_sem, f0]; rfl) (by simp [setAt])] | rw [mwp_load_b1 (by simp (disch := first | omega | decide) only [go_sem, f0]; rfl) (by rfl)] | rw [mwp_aLoad_map (by simp (disch := first | omega | decide) only [go_sem, f0]; rfl) (by first | omega | (simp; omega)) (fun _ => rfl)] | rw [mwp_aLoad_e1 (by simp (disch := first | omega | decide) only [go_sem, f0]; rfl) (by simp) rfl] | skip
    exact hK _
  iterate 1 (apply aops_step (by decide) rfl; · (intro K hK; simp (disch := first | omega | decide) only [go_sem, f0]; exact hK _))
  apply aops_merge' (by decide) (by first | exact want_of (d := 29) rfl (by simp (disch := first | omega | decide) only [go_sem, f0, opn_cond]; rfl) | exact want_of_cond (d := 29) rfl (by simp (disch := first | omega | decide) only [go_sem, f0, opn_cond]; rfl))
  · intro hc K hK
    have hc2 := hc
    simp only [beq_iff_eq, decide_eq_true_eq, decide_eq_false_iff_not, Bool.or_eq_true, Bool.and_eq_true, Bool.or_eq_false_iff, Bool.and_eq_false_iff] at hc2
    simp (disch := first | omega | decide) only [go_sem, f0, opn_cond, hc, if_true, act_fieldAddr_t fo47_2]
    first | rw [mwp_fieldAddr_b (by simp (disch := first | omega | decide) only [go_sem, f0, opn_cond, hc, if_true]; rfl)] | skip
    exact hK _
  apply aops_merge' (by decide) (by first | exact want_of (d := 29) rfl (by simp (disch := first | omega | decide) only [go_sem, f0, opn_cond]; rfl) | exact want_of_cond (d := 29) rfl (by simp (disch := first | omega | decide) only [go_sem, f0, opn_cond]; rfl))
  · intro hc K hK
    have hc2 := hc
    simp only [beq_iff_eq, decide_eq_true_eq, decide_eq_false_iff_not, Bool.or_eq_true, Bool.and_eq_true, Bool.or_eq_false_iff, Bool.and_eq_false_iff] at hc2
    simp (disch := first | omega | decide) only [go_sem, f0, opn_cond, hc, if_true, act_load_t ti3]
    first | rw [mwp_load_i1 (by rfl)] | rw [mwp_load_g1 (by first | (rw [hG]; rfl) | rfl) (by rfl)] | rw [mwp_load_gs (by first | (rw [hG]; rfl) | rfl) (by simp)] | rw [mwp_load_bs (by simp (disch := first | omega | decide) only [go_sem, f0, opn_cond, hc, if_true]; rfl) (by simp [setAt])] | rw [mwp_load_b1 (by simp (disch := first | omega | decide) only [go_sem, f0, opn_cond, hc, if_true]; rfl) (by rfl)] | rw [mwp_aLoad_map (by simp (disch := first | omega | decide) only [go_sem, f0, opn_cond, hc, if_true]; rfl) (by first | omega | (simp; omega)) (fun _ => rfl)] | rw [mwp_aLoad_e1 (by simp (disch := first | omega | decide) only [go_sem, f0, opn_cond, hc, if_true]; rfl) (by simp) rfl] | skip
    exact hK _
  apply aops_merge' (by decide) (by first | exact want_of (d := 29) rfl (by simp (disch := first | omega | decide) only [go_sem, f0, opn_cond]; rfl) | exact want_of_cond (d := 29) rfl (by simp (disch := first | omega | decide) only [go_sem, f0, opn_cond]; rfl))
  · intro hc K hK
    have hc2 := hc
    simp only [beq_iff_eq, decide_eq_true_eq, decide_eq_false_iff_not, Bool.or_eq_true, Bool.and_eq_true, Bool.or_eq_false_iff, Bool.and_eq_false_iff] at hc2
    simp (disch := first | omega | decide) only [go_sem, f0, opn_cond, hc, if_true]
    exact hK _
  apply aops_merge' (by decide) (by first | exact want_of (d := 29) rfl (by simp (disch := first | omega | decide) only [go_sem, f0, opn_cond]; rfl) | exact want_of_cond (d := 29) rfl (by simp (disch := first | omega | decide) only [go_sem, f0, opn_cond]; rfl))
  · intro hc K hK
    have hc2 := hc
    simp only [beq_iff_eq, decide_eq_true_eq, decide_eq_false_iff_not, Bool.or_eq_true, Bool.and_eq_true, Bool.or_eq_false_iff, Bool.and_eq_false_iff] at hc2
    simp (disch := first | omega | decide) only [go_sem, f0, opn_cond, hc, if_true]
    exact hK _
  apply aops_merge' (by decide) (by first | exact want_of (d := 33) rfl (by simp (disch := first | omega | decide) only [go_sem, f0, opn_cond]; rfl) | exact want_of_cond (d := 33) rfl (by simp (disch := first | omega | decide) only [go_sem, f0, opn_cond]; rfl))
  · intro hc K hK
    have hc2 := hc
    simp only [beq_iff_eq, decide_eq_true_eq, decide_eq_false_iff_not, Bool.or_eq_true, Bool.and_eq_true, Bool.or_eq_false_iff, Bool.and_eq_false_iff] at hc2
    simp (disch := first | omega | decide) only [go_sem, f0, opn_cond, hc, if_true, act_fieldAddr_t fo47_1]
    first | rw [mwp_fieldAddr_b (by simp (disch := first | omega | decide) only [go_sem, f0, opn_cond, hc, if_true]; rfl)] | skip
    exact hK _
  apply aops_merge' (by decide) (by first | exact want_of (d := 33) rfl (by simp (disch := first | omega | decide) only [go_sem, f0, opn_cond]; rfl) | exact want_of_cond (d := 33) rfl (by simp (disch := first | omega | decide) only [go_sem, f0, opn_cond]; rfl))
  · intro hc K hK
    have hc2 := hc
    simp only [beq_iff_eq, decide_eq_true_eq, decide_eq_false_iff_not, Bool.or_eq_true, Bool.and_eq_true, Bool.or_eq_false_iff, Bool.and_eq_false_iff] at hc2
    simp (disch := first | omega | decide) only [go_sem, f0, opn_cond, hc, if_true, act_load_t ti3]
    first | rw [mwp_load_i1 (by rfl)] | rw [mwp_load_g1 (by first | (rw [hG]; rfl) | rfl) (by rfl)] | rw [mwp_load_gs (by first | (rw [hG]; rfl) | rfl) (by simp)] | rw [mwp_load_bs (by simp (disch := first | omega | decide) only [go_sem, f0, opn_cond, hc, if_true]; rfl) (by simp [setAt])] | rw [mwp_load_b1 (by simp (disch := first | omega | decide) only [go_sem, f0, opn_cond, hc, if_true]; rfl) (by rfl)] | rw [mwp_aLoad_map (by simp (disch := first | omega | decide) only [go_sem, f0, opn_cond, hc, if_true]; rfl) (by first | omega | (simp; omega)) (fun _ => rfl)] | rw [mwp_aLoad_e1 (by simp (disch := first | omega | decide) only [go_sem, f0, opn_cond, hc, if_true]; rfl) (by simp) rfl] | skip
    exact hK _
  apply aops_merge' (by decide) (by first | exact want_of (d := 33) rfl (by simp (disch := first | omega | decide) only [go_sem, f0, opn_cond]; rfl) | exact want_of_cond (d := 33) rfl (by simp (disch := first | omega | decide) only [go_sem, f0, opn_cond]; rfl))
  · intro hc K hK
    have hc2 := hc
    simp only [beq_iff_eq, decide_eq_true_eq, decide_eq_false_iff_not, Bool.or_eq_true, Bool.and_eq_true, Bool.or_eq_false_iff, Bool.and_eq_false_iff] at hc2
    simp (disch := first | omega | decide) only [go_sem, f0, opn_cond, hc, if_true]
    exact hK _
  apply aops_merge' (by decide) (by first | exact want_of (d := 29) rfl (by simp (disch := first | omega | decide) only [go_sem, f0, opn_cond]; rfl) | exact want_of_cond (d := 29) rfl (by simp (disch := first | omega | decide) only [go_sem, f0, opn_cond]; rfl))
  · intro hc K hK
    have hc2 := hc
    simp only [beq_iff_eq, decide_eq_true_eq, decide_eq_false_iff_not, Bool.or_eq_true, Bool.and_eq_true, Bool.or_eq_false_iff, Bool.and_eq_false_iff] at hc2
    simp (disch := first | omega | decide) only [go_sem, f0, opn_cond, hc, if_true]
    exact hK _
  iterate 2 (apply aops_step (by decide) rfl; · (intro K hK; simp (disch := first | omega | decide) only [go_sem, f0]; exact hK _))
  apply aops_merge' (by decide) (by first | exact want_of (d := 39) rfl (by simp (disch := first | omega | decide) only [go_sem, f0, opn_cond]; rfl) | exact want_of_cond (d := 39) rfl (by simp (disch := first | omega | decide) only [go_sem, f0, opn_cond]; rfl))
  · intro hc K hK
    have hc2 := hc
    simp only [beq_iff_eq, decide_eq_true_eq, decide_eq_false_iff_not, Bool.or_eq_true, Bool.and_eq_true, Bool.or_eq_false_iff, Bool.and_eq_false_iff] at hc2
    simp (disch := first | omega | decide) only [go_sem, f0, opn_cond, hc, if_true, act_fieldAddr_t fo47_4]
    first | rw [mwp_fieldAddr_b (by simp (disch := first | omega | decide) only [go_sem, f0, opn_cond, hc, if_true]; rfl)] | skip
    exact hK _
  apply aops_merge' (by decide) (by first | exact want_of (d := 39) rfl (by simp (disch := first | omega | decide) only [go_sem, f0, opn_cond]; rfl) | exact want_of_cond (d := 39) rfl (by simp (disch := first | omega | decide) only [go_sem, f0, opn_cond]; rfl))
  · intro hc K hK
    have hc2 := hc
    simp only [beq_iff_eq, decide_eq_true_eq, decide_eq_false_iff_not, Bool.or_eq_true, Bool.and_eq_true, Bool.or_eq_false_iff, Bool.and_eq_false_iff] at hc2
    simp (disch := first | omega | decide) only [go_sem, f0, opn_cond, hc, if_true, act_load_t ti4]
    first | rw [mwp_load_i1 (by rfl)] | rw [mwp_load_g1 (by first | (rw [hG]; rfl) | rfl) (by rfl)] | rw [mwp_load_gs (by first | (rw [hG]; rfl) | rfl) (by simp)] | rw [mwp_load_bs (by simp (disch := first | omega | decide) only [go_sem, f0, opn_cond, hc, if_true]; rfl) (by simp [setAt])] | rw [mwp_load_b1 (by simp (disch := first | omega | decide) only [go_sem, f0, opn_cond, hc, if_true]; rfl) (by rfl)] | rw [mwp_aLoad_map (by simp (disch := first | omega | decide) only [go_sem, f0, opn_cond, hc, if_true]; rfl) (by first | omega | (simp; omega)) (fun _ => rfl)] | rw [mwp_aLoad_e1 (by simp (disch := first | omega | decide) only [go_sem, f0, opn_cond, hc, if_true]; rfl) (by simp) rfl] | skip
    exact hK _
  apply aops_merge' (by decide) (by first | exact want_of (d := 39) rfl (by simp (disch := first | omega | decide) only [go_sem, f0, opn_cond]; rfl) | exact want_of_cond (d := 39) rfl (by simp (disch := first | omega | decide) only [go_sem, f0, opn_cond]; rfl))
  · intro hc K hK
    have hc2 := hc
    simp only [beq_iff_eq, decide_eq_true_eq, decide_eq_false_iff_not, Bool.or_eq_true, Bool.and_eq_true, Bool.or_eq_false_iff, Bool.and_eq_false_iff] at hc2
    simp (disch := first | omega | decide) only [go_sem, f0, opn_cond, hc, if_true]
    exact hK _
  apply aops_merge' (by decide) (by first | exact want_of (d := 39) rfl (by simp (disch := first | omega | decide) only [go_sem, f0, opn_cond]; rfl) | exact want_of_cond (d := 39) rfl (by simp (disch := first | omega | decide) only [go_sem, f0, opn_cond]; rfl))
  · intro hc K hK
    have hc2 := hc
    simp only [beq_iff_eq, decide_eq_true_eq, decide_eq_false_iff_not, Bool.or_eq_true, Bool.and_eq_true, Bool.or_eq_false_iff, Bool.and_eq_false_iff] at hc2
    simp (disch := first | omega | decide) only [go_sem, f0, opn_cond, hc, if_true]
    exact hK _
  apply aops_merge' (by decide) (by first | exact want_of (d := 43) rfl (by simp (disch := first | omega | decide) only [go_sem, f0, opn_cond]; rfl) | exact want_of_cond (d := 43) rfl (by simp (disch := first | omega | decide) only [go_sem, f0, opn_cond]; rfl))
  · intro hc K hK
    have hc2 := hc
    simp only [beq_iff_eq, decide_eq_true_eq, decide_eq_false_iff_not, Bool.or_eq_true, Bool.and_eq_true, Bool.or_eq_false_iff, Bool.and_eq_false_iff] at hc2
    simp (disch := first | omega | decide) only [go_sem, f0, opn_cond, hc, if_true, act_fieldAddr_t fo47_6]
    first | rw [mwp_fieldAddr_b (by simp (disch := first | omega | decide) only [go_sem, f0, opn_cond, hc, if_true]; rfl)] | skip
    exact hK _
  apply aops_merge' (by decide) (by first | exact want_of (d := 43) rfl (by simp (disch := first | omega | decide) only [go_sem, f0, opn_cond]; rfl) | exact want_of_cond (d := 43) rfl (by simp (disch := first | omega | decide) only [go_sem, f0, opn_cond]; rfl))
  · intro hc K hK
    have hc2 := hc
    simp only [beq_iff_eq, decide_eq_true_eq, decide_eq_false_iff_not, Bool.or_eq_true, Bool.and_eq_true, Bool.or_eq_false_iff, Bool.and_eq_false_iff] at hc2
    simp (disch := first | omega | decide) only [go_sem, f0, opn_cond, hc, if_true, act_load_t ti3]
    first | rw [mwp_load_i1 (by rfl)] | rw [mwp_load_g1 (by first | (rw [hG]; rfl) | rfl) (by rfl)] | rw [mwp_load_gs (by first | (rw [hG]; rfl) | rfl) (by simp)] | rw [mwp_load_bs (by simp (disch := first | omega | decide) only [go_sem, f0, opn_cond, hc, if_true]; rfl) (by simp [setAt])] | rw [mwp_load_b1 (by simp (disch := first | omega | decide) only [go_sem, f0, opn_cond, hc, if_true]; rfl) (by rfl)] | rw [mwp_aLoad_map (by simp (disch := first | omega | decide) only [go_sem, f0, opn_cond, hc, if_true]; rfl) (by first | omega | (simp; omega)) (fun _ => rfl)] | rw [mwp_aLoad_e1 (by simp (disch := first | omega | decide) only [go_sem, f0, opn_cond, hc, if_true]; rfl) (by simp) rfl] | skip
    exact hK _
  apply aops_merge' (by decide) (by first | exact want_of (d := 43) rfl (by simp (disch := first | omega | decide) only [go_sem, f0, opn_cond]; rfl) | exact want_of_cond (d := 43) rfl (by simp (disch := first | omega | decide) only [go_sem, f0, opn_cond]; rfl))
  · intro hc K hK
    have hc2 := hc
    simp only [beq_iff_eq, decide_eq_true_eq, decide_eq_false_iff_not, Bool.or_eq_true, Bool.and_eq_true, Bool.or_eq_false_iff, Bool.and_eq_false_iff] at hc2
    simp (disch := first | omega | decide) only [go_sem, f0, opn_cond, hc, if_true]
    exact hK _
  apply aops_merge' (by decide) (by first | exact want_of (d := 39) rfl (by simp (disch := first | omega | decide) only [go_sem, f0, opn_cond]; rfl) | exact want_of_cond (d := 39) rfl (by simp (disch := first | omega | decide) only [go_sem, f0, opn_cond]; rfl))
  · intro hc K hK
    have hc2 := hc
    simp only [beq_iff_eq, decide_eq_true_eq, decide_eq_false_iff_not, Bool.or_eq_true, Bool.and_eq_true, Bool.or_eq_false_iff, Bool.and_eq_false_iff] at hc2
    simp (disch := first | omega | decide) only [go_sem, f0, opn_cond, hc, if_true]
    exact hK _
  iterate 2 (apply aops_step (by decide) rfl; · (intro K hK; simp (disch := first | omega | decide) only [go_sem, f0]; exact hK _))
  apply aops_merge' (by decide) (by first | exact want_of (d := 49) rfl (by simp (disch := first | omega | decide) only [go_sem, f0, opn_cond]; rfl) | exact want_of_cond (d := 49) rfl (by simp (disch := first | omega | decide) only [go_sem, f0, opn_cond]; rfl))
  · intro hc K hK
    have hc2 := hc
    simp only [beq_iff_eq, decide_eq_true_eq, decide_eq_false_iff_not, Bool.or_eq_true, Bool.and_eq_true, Bool.or_eq_false_iff, Bool.and_eq_false_iff] at hc2
    simp (disch := first | omega | decide) only [go_sem, f0, opn_cond, hc, if_true, act_fieldAddr_t fo47_5]
    first | rw [mwp_fieldAddr_b (by simp (disch := first | omega | decide) only [go_sem, f0, opn_cond, hc, if_true]; rfl)] | skip
    exact hK _
  apply aops_merge' (by decide) (by first | exact want_of (d := 49) rfl (by simp (disch := first | omega | decide) only [go_sem, f0, opn_cond]; rfl) | exact want_of_cond (d := 49) rfl (by simp (disch := first | omega | decide) only [go_sem, f0, opn_cond]; rfl))
  · intro hc K hK
    have hc2 := hc
    simp only [beq_iff_eq, decide_eq_true_eq, decide_eq_false_iff_not, Bool.or_eq_true, Bool.and_eq_true, Bool.or_eq_false_iff, Bool.and_eq_false_iff] at hc2
    simp (disch := first | omega | decide) only [go_sem, f0, opn_cond, hc, if_true, act_load_t ti4]
    first | rw [mwp_load_i1 (by rfl)] | rw [mwp_load_g1 (by first | (rw [hG]; rfl) | rfl) (by rfl)] | rw [mwp_load_gs (by first | (rw [hG]; rfl) | rfl) (by simp)] | rw [mwp_load_bs (by simp (disch := first | omega | decide) only [go_sem, f0, opn_cond, hc, if_true]; rfl) (by simp [setAt])] | rw [mwp_load_b1 (by simp (disch := first | omega | decide) only [go_sem, f0, opn_cond, hc, if_true]; rfl) (by rfl)] | rw [mwp_aLoad_map (by simp (disch := first | omega | decide) only [go_sem, f0, opn_cond, hc, if_true]; rfl) (by first | omega | (simp; omega)) (fun _ => rfl)] | rw [mwp_aLoad_e1 (by simp (disch := first | omega | decide) only [go_sem, f0, opn_cond, hc, if_true]; rfl) (by simp) rfl] | skip
    exact hK _
  apply aops_merge' (by decide) (by first | exact want_of (d := 49) rfl (by simp (disch := first | omega | decide) only [go_sem, f0, opn_cond]; rfl) | exact want_of_cond (d := 49) rfl (by simp (disch := first | omega | decide) only [go_sem, f0, opn_cond]; rfl))
  · intro hc K hK
    have hc2 := hc
    simp only [beq_iff_eq, decide_eq_true_eq, decide_eq_false_iff_not, Bool.or_eq_true, Bool.and_eq_true, Bool.or_eq_false_iff, Bool.and_eq_false_iff] at hc2
    simp (disch := first | omega | decide) only [go_sem, f0, opn_cond, hc, if_true]
    exact hK _
  apply aops_merge' (by decide) (by first | exact want_of (d := 52) rfl (by simp (disch := first | omega | decide) only [go_sem, f0, opn_cond]; rfl) | exact want_of_cond (d := 52) rfl (by simp (disch := first | omega | decide) only [go_sem, f0, opn_cond]; rfl))
  · intro hc K hK
    have hc2 := hc
    simp only [beq_iff_eq, decide_eq_true_eq, decide_eq_false_iff_not, Bool.or_eq_true, Bool.and_eq_true, Bool.or_eq_false_iff, Bool.and_eq_false_iff] at hc2
    simp (disch := first | omega | decide) only [go_sem, f0, opn_cond, hc, if_true, act_fieldAddr_t fo47_4]
    first | rw [mwp_fieldAddr_b (by simp (disch := first | omega | decide) only [go_sem, f0, opn_cond, hc, if_true]; rfl)] | skip
    exact hK _
  apply aops_merge' (by decide) (by first | exact want_of (d := 52) rfl (by simp (disch := first | omega | decide) only [go_sem, f0, opn_cond]; rfl) | exact want_of_cond (d := 52) rfl (by simp (disch := first | omega | decide) only [go_sem, f0, opn_cond]; rfl))
  · intro hc K hK
    have hc2 := hc
    simp only [beq_iff_eq, decide_eq_true_eq, decide_eq_false_iff_not, Bool.or_eq_true, Bool.and_eq_true, Bool.or_eq_false_iff, Bool.and_eq_false_iff] at hc2
    simp (disch := first | omega | decide) only [go_sem, f0, opn_cond, hc, if_true, act_load_t ti4]
    first | rw [mwp_load_i1 (by rfl)] | rw [mwp_load_g1 (by first | (rw [hG]; rfl) | rfl) (by rfl)] | rw [mwp_load_gs (by first | (rw [hG]; rfl) | rfl) (by simp)] | rw [mwp_load_bs (by simp (disch := first | omega | decide) only [go_sem, f0, opn_cond, hc, if_true]; rfl) (by simp [setAt])] | rw [mwp_load_b1 (by simp (disch := first | omega | decide) only [go_sem, f0, opn_cond, hc, if_true]; rfl) (by rfl)] | rw [mwp_aLoad_map (by simp (disch := first | omega | decide) only [go_sem, f0, opn_cond, hc, if_true]; rfl) (by first | omega | (simp; omega)) (fun _ => rfl)] | rw [mwp_aLoad_e1 (by simp (disch := first | omega | decide) only [go_sem, f0, opn_cond, hc, if_true]; rfl) (by simp) rfl] | skip
    exact hK _
  apply aops_merge' (by decide) (by first | exact want_of (d := 52) rfl (by simp (disch := first | omega | decide) only [go_sem, f0, opn_cond]; rfl) | exact want_of_cond (d := 52) rfl (by simp (disch := first | omega | decide) only [go_sem, f0, opn_cond]; rfl))
  · intro hc K hK
    have hc2 := hc
    simp only [beq_iff_eq, decide_eq_true_eq, decide_eq_false_iff_not, Bool.or_eq_true, Bool.and_eq_true, Bool.or_eq_false_iff, Bool.and_eq_false_iff] at hc2
    simp (disch := first | omega | decide) only [go_sem, f0, opn_cond, hc, if_true]
    exact hK _
  apply aops_merge' (by decide) (by first | exact want_of (d := 49) rfl (by simp (disch := first | omega | decide) only [go_sem, f0, opn_cond]; rfl) | exact want_of_cond (d := 49) rfl (by simp (disch := first | omega | decide) only [go_sem, f0, opn_cond]; rfl))
  · intro hc K hK
    have hc2 := hc
    simp only [beq_iff_eq, decide_eq_true_eq, decide_eq_false_iff_not, Bool.or_eq_true, Bool.and_eq_true, Bool.or_eq_false_iff, Bool.and_eq_false_iff] at hc2
    simp (disch := first | omega | decide) only [go_sem, f0, opn_cond, hc, if_true]
    exact hK _
  iterate 2 (apply aops_step (by decide) rfl; · (intro K hK; simp (disch := first | omega | decide) only [go_sem, f0]; exact hK _))
  apply aops_merge' (by decide) (by first | exact want_of (d := 58) rfl (by simp (disch := first | omega | decide) only [go_sem, f0, opn_cond]; rfl) | exact want_of_cond (d := 58) rfl (by simp (disch := first | omega | decide) only [go_sem, f0, opn_cond]; rfl))
  · intro hc K hK
    have hc2 := hc
    simp only [beq_iff_eq, decide_eq_true_eq, decide_eq_false_iff_not, Bool.or_eq_true, Bool.and_eq_true, Bool.or_eq_false_iff, Bool.and_eq_false_iff] at hc2
    simp (disch := first | omega | decide) only [go_sem, f0, opn_cond, hc, if_true, act_fieldAddr_t fo47_7]
    first | rw [mwp_fieldAddr_b (by simp (disch := first | omega | decide) only [go_sem, f0, opn_cond, hc, if_true]; rfl)] | skip
    exact hK _
  apply aops_merge' (by decide) (by first | exact want_of (d := 58) rfl (by simp (disch := first | omega | decide) only [go_sem, f0, opn_cond]; rfl) | exact want_of_cond (d := 58) rfl (by simp (disch := first | omega | decide) only [go_sem, f0, opn_cond]; rfl))
  · intro hc K hK
    have hc2 := hc
    simp only [beq_iff_eq, decide_eq_true_eq, decide_eq_false_iff_not, Bool.or_eq_true, Bool.and_eq_true, Bool.or_eq_false_iff, Bool.and_eq_false_iff] at hc2
    simp (disch := first | omega | decide) only [go_sem, f0, opn_cond, hc, if_true, act_load_t ti4]
    first | rw [mwp_load_i1 (by rfl)] | rw [mwp_load_g1 (by first | (rw [hG]; rfl) | rfl) (by rfl)] | rw [mwp_load_gs (by first | (rw [hG]; rfl) | rfl) (by simp)] | rw [mwp_load_bs (by simp (disch := first | omega | decide) only [go_sem, f0, opn_cond, hc, if_true]; rfl) (by simp [setAt])] | rw [mwp_load_b1 (by simp (disch := first | omega | decide) only [go_sem, f0, opn_cond, hc, if_true]; rfl) (by rfl)] | rw [mwp_aLoad_map (by simp (disch := first | omega | decide) only [go_sem, f0, opn_cond, hc, if_true]; rfl) (by first | omega | (simp; omega)) (fun _ => rfl)] | rw [mwp_aLoad_e1 (by simp (disch := first | omega | decide) only [go_sem, f0, opn_cond, hc, if_true]; rfl) (by simp) rfl] | skip
    exact hK _
  apply aops_merge' (by decide) (by first | exact want_of (d := 58) rfl (by simp (disch := first | omega | decide) only [go_sem, f0, opn_cond]; rfl) | exact want_of_cond (d := 58) rfl (by simp (disch := first | omega | decide) only [go_sem, f0, opn_cond]; rfl))
  · intro hc K hK
    have hc2 := hc
    simp only [beq_iff_eq, decide_eq_true_eq, decide_eq_false_iff_not, Bool.or_eq_true, Bool.and_eq_true, Bool.or_eq_false_iff, Bool.and_eq_false_iff] at hc2
    simp (disch := first | omega | decide) only [go_sem, f0, opn_cond, hc, if_true]
    exact hK _
  apply aops_merge' (by decide) (by first | exact want_of (d := 61) rfl (by simp (disch := first | omega | decide) only [go_sem, f0, opn_cond]; rfl) | exact want_of_cond (d := 61) rfl (by simp (disch := first | omega | decide) only [go_sem, f0, opn_cond]; rfl))
  · intro hc K hK
    have hc2 := hc
    simp only [beq_iff_eq, decide_eq_true_eq, decide_eq_false_iff_not, Bool.or_eq_true, Bool.and_eq_true, Bool.or_eq_false_iff, Bool.and_eq_false_iff] at hc2
    simp (disch := first | omega | decide) only [go_sem, f0, opn_cond, hc, if_true, act_fieldAddr_t fo47_5]
    first | rw [mwp_fieldAddr_b (by simp (disch := first | omega | decide) only [go_sem, f0, opn_cond, hc, if_true]; rfl)] | skip
    exact hK _
  apply aops_merge' (by decide) (by first | exact want_of (d := 61) rfl (by simp (disch := first | omega | decide) only [go_sem, f0, opn_cond]; rfl) | exact want_of_cond (d := 61) rfl (by simp (disch := first | omega | decide) only [go_sem, f0, opn_cond]; rfl))
  · intro hc K hK
    have hc2 := hc
    simp only [beq_iff_eq, decide_eq_true_eq, decide_eq_false_iff_not, Bool.or_eq_true, Bool.and_eq_true, Bool.or_eq_false_iff, Bool.and_eq_false_iff] at hc2
    simp (disch := first | omega | decide) only [go_sem, f0, opn_cond, hc, if_true, act_load_t ti4]
    first | rw [mwp_load_i1 (by rfl)] | rw [mwp_load_g1 (by first | (rw [hG]; rfl) | rfl) (by rfl)] | rw [mwp_load_gs (by first | (rw [hG]; rfl) | rfl) (by simp)] | rw [mwp_load_bs (by simp (disch := first | omega | decide) only [go_sem, f0, opn_cond, hc, if_true]; rfl) (by simp [setAt])] | rw [mwp_load_b1 (by simp (disch := first | omega | decide) only [go_sem, f0, opn_cond, hc, if_true]; rfl) (by rfl)] | rw [mwp_aLoad_map (by simp (disch := first | omega | decide) only [go_sem, f0, opn_cond, hc, if_true]; rfl) (by first | omega | (simp; omega)) (fun _ => rfl)] | rw [mwp_aLoad_e1 (by simp (disch := first | omega | decide) only [go_sem, f0, opn_cond, hc, if_true]; rfl) (by simp) rfl] | skip
    exact hK _
  apply aops_merge' (by decide) (by first | exact want_of (d := 61) rfl (by simp (disch := first | omega | decide) only [go_sem, f0, opn_cond]; rfl) | exact want_of_cond (d := 61) rfl (by simp (disch := first | omega | decide) only [go_sem, f0, opn_cond]; rfl))
  · intro hc K hK
    have hc2 := hc
    simp only [beq_iff_eq, decide_eq_true_eq, decide_eq_false_iff_not, Bool.or_eq_true, Bool.and_eq_true, Bool.or_eq_false_iff, Bool.and_eq_false_iff] at hc2
    simp (disch := first | omega | decide) only [go_sem, f0, opn_cond, hc, if_true]
    exact hK _
  apply aops_merge' (by decide) (by first | exact want_of (d := 58) rfl (by simp (disch := first | omega | decide) only [go_sem, f0, opn_cond]; rfl) | exact want_of_cond (d := 58) rfl (by simp (disch := first | omega | decide) only [go_sem, f0, opn_cond]; rfl))
  · intro hc K hK
    have hc2 := hc
    simp only [beq_iff_eq, decide_eq_true_eq, decide_eq_false_iff_not, Bool.or_eq_true, Bool.and_eq_true, Bool.or_eq_false_iff, Bool.and_eq_false_iff] at hc2
    simp (disch := first | omega | decide) only [go_sem, f0, opn_cond, hc, if_true]
    exact hK _
  iterate 2 (apply aops_step (by decide) rfl; · (intro K hK; simp (disch := first | omega | decide) only [go_sem, f0]; exact hK _))
  apply aops_merge' (by decide) (by first | exact want_of (d := 67) rfl (by simp (disch := first | omega | decide) only [go_sem, f0, opn_cond]; rfl) | exact want_of_cond (d := 67) rfl (by simp (disch := first | omega | decide) only [go_sem, f0, opn_cond]; rfl))
  · intro hc K hK
    have hc2 := hc
    simp only [beq_iff_eq, decide_eq_true_eq, decide_eq_false_iff_not, Bool.or_eq_true, Bool.and_eq_true, Bool.or_eq_false_iff, Bool.and_eq_false_iff] at hc2
    simp (disch := first | omega | decide) only [go_sem, f0, opn_cond, hc, if_true]
    exact hK _
  apply aops_merge' (by decide) (by first | exact want_of (d := 67) rfl (by simp (disch := first | omega | decide) only [go_sem, f0, opn_cond]; rfl) | exact want_of_cond (d := 67) rfl (by simp (disch := first | omega | decide) only [go_sem, f0, opn_cond]; rfl))
  · intro hc K hK
    have hc2 := hc
    simp only [beq_iff_eq, decide_eq_true_eq, decide_eq_false_iff_not, Bool.or_eq_true, Bool.and_eq_true, Bool.or_eq_false_iff, Bool.and_eq_false_iff] at hc2
    simp (disch := first | omega | decide) only [go_sem, f0, opn_cond, hc, if_true]
    exact hK _
  iterate 1 (apply aops_step (by decide) rfl; · (intro K hK; simp (disch := first | omega | decide) only [go_sem, f0]; exact hK _))
  refine aops_nil ?_
  apply AW.cond
  · simp (disch := first | omega | decide) only [go_sem, f0]; rfl
  case ht =>
    intro hb
    try simp only [Bool.or_eq_true, Bool.and_eq_true, Bool.or_eq_false_iff, Bool.and_eq_false_iff, decide_eq_true_eq, decide_eq_false_iff_not] at hb
    have hbt70 := hb
    refine AW.seq ?_
    refine AW.region (cfg := cfg) ?_
    iterate 1 (apply aops_step (by decide) rfl; · (intro K hK; simp (disch := first | omega | decide) only [go_sem, f0]; exact hK _))
    refine aops_nil ?_
    refine AW.ret ?_
    refine ⟨.inr rfl, ?_⟩
    refine leaves_tmp1 2 rfl ?_ (by first | rfl | exact hG)
    simp (disch := first | omega | decide) only [go_sem, f0]
    clear hr hv hG f0
    obtain ⟨of, co, bo, ep, he, fu, ag, go⟩ := n
    all_goals (cases he <;> cases fu <;> cases go <;> simp_all [chk, bad, okA, wi] <;> first | done | omega | (rw [Bool.eq_iff_iff]; simp; omega) | (split <;> simp_all <;> omega) | grind | trace_state)
  case hf =>
    intro hb
    try simp only [Bool.or_eq_true, Bool.and_eq_true, Bool.or_eq_false_iff, Bool.and_eq_false_iff, decide_eq_true_eq, decide_eq_false_iff_not] at hb
    have hbt70 := hb
    refine AW.skip ?_
    refine AW.seq ?_
    refine AW.region (cfg := cfg) ?_
    iterate 1 (apply aops_step (by decide) rfl; · (intro K hK; simp (disch := first | omega | decide) only [go_sem, f0]; exact hK _))
    refine aops_nil ?_
    refine AW.ret ?_
    refine ⟨.inr rfl, ?_⟩
    refine leaves_tmp1 2 rfl ?_ (by first | rfl | exact hG)
    simp (disch := first | omega | decide) only [go_sem, f0]
    clear hr hv hG f0
    obtain ⟨of, co, bo, ep, he, fu, ag, go⟩ := n
    all_goals (cases he <;> cases fu <;> cases go <;> simp_all [chk, bad, okA, wi] <;> first | done | omega | (rw [Bool.eq_iff_iff]; simp; omega) | (split <;> simp_all <;> omega) | grind | trace_state)

set_option maxHeartbeats 4000000 in
set_option maxRecDepth 100000 in
theorem good_refMay (n : Near) : Good Try.prog 29 [(.agg [i64 (n).of, i64 (n).co, i64 (n).bo, i64 (n).ep, .b (n).he, .b (n).fu, i64 (n).ag, .b (n).go], false)] [] [(.b (!bad n), false)] [] := by
  refine good_of_body2 83 Try.func29 rfl rfl rfl (by simp) ?_
  intro s m ha hr hv hG
  have f0 : s 0 = .v (.agg [i64 (n).of, i64 (n).co, i64 (n).bo, i64 (n).ep, .b (n).he, .b (n).fu, i64 (n).ag, .b (n).go]) := ha 0 _ rfl
  clear ha
  refine AW.seq ?_
  refine AW.region (cfg := cfg) ?_
  apply aops_step (by decide) rfl
  · intro K hK
    simp (disch := first | omega | decide) only [go_sem, f0, act_box_t ti47, List.map]
    rw [settleL_vish _ _ (by rfl)]
    simp (disch := first | omega | decide) only [go_sem, f0, cellsL, List.map, List.length_cons, List.length_nil, Nat.reduceAdd, if_true]
    exact hK _
  iterate 1 (apply aops_step (by decide) rfl; · (intro K hK; simp (disch := first | omega | decide) only [go_sem, f0]; exact hK _))
  refine aops_nil ?_
  refine AW.seq ?_
  refine AW.seq ?_
  refine AW.region (cfg := cfg) ?_
  apply aops_step (by decide) rfl
  · intro K hK
    simp (disch := first | omega | decide) only [go_sem, f0, act_fieldAddr_t fo47_0, List.map]
    first | rw [mwp_fieldAddr_b (by simp (disch := first | omega | decide) only [go_sem, f0]; rfl)] | skip
    exact hK _
  apply aops_step (by decide) rfl
  · intro K hK
    simp (disch := first | omega | decide) only [go_sem, f0, act_load_t ti3, List.map]
    first | rw [mwp_load_i1 (by rfl)] | rw [mwp_load_g1 (by first | (rw [hG]; rfl) | rfl) (by rfl)] | rw [mwp_load_gs (by first | (rw [hG]; rfl) | rfl) (by simp)] | rw [mwp_load_bs (by simp (disch := first | omega | decide) only [go_sem, f0]; rfl) (by simp [setAt])] | rw [mwp_load_b1 (by simp (disch := first | omega | decide) only [go_sem, f0]; rfl) (by rfl)] | rw [mwp_aLoad_map (by simp (disch := first | omega | decide) only [go_sem, f0]; rfl) (by first | omega | (simp; omega)) (fun _ => rfl)] | rw [mwp_aLoad_e1 (by simp (disch := first | omega | decide) only [go_sem, f0]; rfl) (by simp) rfl] | skip
    exact hK _
  iterate 2 (apply aops_step (by decide) rfl; · (intro K hK; simp (disch := first | omega | decide) only [go_sem, f0]; exact hK _))
  apply aops_merge' (by decide) (by first | exact want_of (d := 6) rfl (by simp (disch := first | omega | decide) only [go_sem, f0, opn_cond]; rfl) | exact want_of_cond (d := 6) rfl (by simp (disch := first | omega | decide) only [go_sem, f0, opn_cond]; rfl))
  · intro hc K hK
    have hc2 := hc
    simp only [beq_iff_eq, decide_eq_true_eq, decide_eq_false_iff_not, Bool.or_eq_true, Bool.and_eq_true, Bool.or_eq_false_iff, Bool.and_eq_false_iff] at hc2
    simp (disch := first | omega | decide) only [go_sem, f0, opn_cond, hc, if_true, act_fieldAddr_t fo47_0]
    first | rw [mwp_fieldAddr_b (by simp (disch := first | omega | decide) only [go_sem, f0, opn_cond, hc, if_true]; rfl)] | skip
    exact hK _
  apply aops_merge' (by decide) (by first | exact want_of (d := 6) rfl (by simp (disch := first | omega | decide) only [go_sem, f0, opn_cond]; rfl) | exact want_of_cond (d := 6) rfl (by simp (disch := first | omega | decide) only [go_sem, f0, opn_cond]; rfl))
  · intro hc K hK
    have hc2 := hc
    simp only [beq_iff_eq, decide_eq_true_eq, decide_eq_false_iff_not, Bool.or_eq_true, Bool.and_eq_true, Bool.or_eq_false_iff, Bool.and_eq_false_iff] at hc2
    simp (disch := first | omega | decide) only [go_sem, f0, opn_cond, hc, if_true, act_load_t ti3]
    first | rw [mwp_load_i1 (by rfl)] | rw [mwp_load_g1 (by first | (rw [hG]; rfl) | rfl) (by rfl)] | rw [mwp_load_gs (by first | (rw [hG]; rfl) | rfl) (by simp)] | rw [mwp_load_bs (by simp (disch := first | omega | decide) only [go_sem, f0, opn_cond, hc, if_true]; rfl) (by simp [setAt])] | rw [mwp_load_b1 (by simp (disch := first | omega | decide) only [go_sem, f0, opn_cond, hc, if_true]; rfl) (by rfl)] | rw [mwp_aLoad_map (by simp (disch := first | omega | decide) only [go_sem, f0, opn_cond, hc, if_true]; rfl) (by first | omega | (simp; omega)) (fun _ => rfl)] | rw [mwp_aLoad_e1 (by simp (disch := first | omega | decide) only [go_sem, f0, opn_cond, hc, if_true]; rfl) (by simp) rfl] | skip
    exact hK _
  apply aops_merge' (by decide) (by first | exact want_of (d := 6) rfl (by simp (disch := first | omega | decide) only [go_sem, f0, opn_cond]; rfl) | exact want_of_cond (d := 6) rfl (by simp (disch := first | omega | decide) only [go_sem, f0, opn_cond]; rfl))
  · intro hc K hK
    have hc2 := hc
    simp only [beq_iff_eq, decide_eq_true_eq, decide_eq_false_iff_not, Bool.or_eq_true, Bool.and_eq_true, Bool.or_eq_false_iff, Bool.and_eq_false_iff] at hc2
    simp (disch := first | omega | decide) only [go_sem, f0, opn_cond, hc, if_true]
    exact hK _
  iterate 2 (apply aops_step (by decide) rfl; · (intro K hK; simp (disch := first | omega | decide) only [go_sem, f0]; exact hK _))
  apply aops_merge' (by decide) (by first | exact want_of (d := 11) rfl (by simp (disch := first | omega | decide) only [go_sem, f0, opn_cond]; rfl) | exact want_of_cond (d := 11) rfl (by simp (disch := first | omega | decide) only [go_sem, f0, opn_cond]; rfl))
  · intro hc K hK
    have hc2 := hc
    simp only [beq_iff_eq, decide_eq_true_eq, decide_eq_false_iff_not, Bool.or_eq_true, Bool.and_eq_true, Bool.or_eq_false_iff, Bool.and_eq_false_iff] at hc2
    simp (disch := first | omega | decide) only [go_sem, f0, opn_cond, hc, if_true, act_fieldAddr_t fo47_1]
    first | rw [mwp_fieldAddr_b (by simp (disch := first | omega | decide) only [go_sem, f0, opn_cond, hc, if_true]; rfl)] | skip
    exact hK _
  apply aops_merge' (by decide) (by first | exact want_of (d := 11) rfl (by simp (disch := first | omega | decide) only [go_sem, f0, opn_cond]; rfl) | exact want_of_cond (d := 11) rfl (by simp (disch := first | omega | decide) only [go_sem, f0, opn_cond]; rfl))
  · intro hc K hK
    have hc2 := hc
    simp only [beq_iff_eq, decide_eq_true_eq, decide_eq_false_iff_not, Bool.or_eq_true, Bool.and_eq_true, Bool.or_eq_false_iff, Bool.and_eq_false_iff] at hc2
    simp (disch := first | omega | decide) only [go_sem, f0, opn_cond, hc, if_true, act_load_t ti3]
    first | rw [mwp_load_i1 (by rfl)] | rw [mwp_load_g1 (by first | (rw [hG]; rfl) | rfl) (by rfl)] | rw [mwp_load_gs (by first | (rw [hG]; rfl) | rfl) (by simp)] | rw [mwp_load_bs (by simp (disch := first | omega | decide) only [go_sem, f0, opn_cond, hc, if_true]; rfl) (by simp [setAt])] | rw [mwp_load_b1 (by simp (disch := first | omega | decide) only [go_sem, f0, opn_cond, hc, if_true]; rfl) (by rfl)] | rw [mwp_aLoad_map (by simp (disch := first | omega | decide) only [go_sem, f0, opn_cond, hc, if_true]; rfl) (by first | omega | (simp; omega)) (fun _ => rfl)] | rw [mwp_aLoad_e1 (by simp (disch := first | omega | decide) only [go_sem, f0, opn_cond, hc, if_true]; rfl) (by simp) rfl] | skip
    exact hK _
  apply aops_merge' (by decide) (by first | exact want_of (d := 11) rfl (by simp (disch := first | omega | decide) only [go_sem, f0, opn_cond]; rfl) | exact want_of_cond (d := 11) rfl (by simp (disch := first | omega | decide) only [go_sem, f0, opn_cond]; rfl))
  · intro hc K hK
    have hc2 := hc
    simp only [beq_iff_eq, decide_eq_true_eq, decide_eq_false_iff_not, Bool.or_eq_true, Bool.and_eq_true, Bool.or_eq_false_iff, Bool.and_eq_false_iff] at hc2
    simp (disch := first | omega | decide) only [go_sem, f0, opn_cond, hc, if_true]
    exact hK _
  iterate 2 (apply aops_step (by decide) rfl; · (intro K hK; simp (disch := first | omega | decide) only [go_sem, f0]; exact hK _))
  apply aops_merge' (by decide) (by first | exact want_of (d := 16) rfl (by simp (disch := first | omega | decide) only [go_sem, f0, opn_cond]; rfl) | exact want_of_cond (d := 16) rfl (by simp (disch := first | omega | decide) only [go_sem, f0, opn_cond]; rfl))
  · intro hc K hK
    have hc2 := hc
    simp only [beq_iff_eq, decide_eq_true_eq, decide_eq_false_iff_not, Bool.or_eq_true, Bool.and_eq_true, Bool.or_eq_false_iff, Bool.and_eq_false_iff] at hc2
    simp (disch := first | omega | decide) only [go_sem, f0, opn_cond, hc, if_true, act_fieldAddr_t fo47_1]
    first | rw [mwp_fieldAddr_b (by simp (disch := first | omega | decide) only [go_sem, f0, opn_cond, hc, if_true]; rfl)] | skip
    exact hK _
  apply aops_merge' (by decide) (by first | exact want_of (d := 16) rfl (by simp (disch := first | omega | decide) only [go_sem, f0, opn_cond]; rfl) | exact want_of_cond (d := 16) rfl (by simp (disch := first | omega | decide) only [go_sem, f0, opn_cond]; rfl))
  · intro hc K hK
    have hc2 := hc
    simp only [beq_iff_eq, decide_eq_true_eq, decide_eq_false_iff_not, Bool.or_eq_true, Bool.and_eq_true, Bool.or_eq_false_iff, Bool.and_eq_false_iff] at hc2
    simp (disch := first | omega | decide) only [go_sem, f0, opn_cond, hc, if_true, act_load_t ti3]
    first | rw [mwp_load_i1 (by rfl)] | rw [mwp_load_g1 (by first | (rw [hG]; rfl) | rfl) (by rfl)] | rw [mwp_load_gs (by first | (rw [hG]; rfl) | rfl) (by simp)] | rw [mwp_load_bs (by simp (disch := first | omega | decide) only [go_sem, f0, opn_cond, hc, if_true]; rfl) (by simp [setAt])] | rw [mwp_load_b1 (by simp (disch := first | omega | decide) only [go_sem, f0, opn_cond, hc, if_true]; rfl) (by rfl)] | rw [mwp_aLoad_map (by simp (disch := first | omega | decide) only [go_sem, f0, opn_cond, hc, if_true]; rfl) (by first | omega | (simp; omega)) (fun _ => rfl)] | rw [mwp_aLoad_e1 (by simp (disch := first | omega | decide) only [go_sem, f0, opn_cond, hc, if_true]; rfl) (by simp) rfl] | skip
    exact hK _
  apply aops_merge' (by decide) (by first | exact want_of (d := 16) rfl (by simp (disch := first | omega | decide) only [go_sem, f0, opn_cond]; rfl) | exact want_of_cond (d := 16) rfl (by simp (disch := first | omega | decide) only [go_sem, f0, opn_cond]; rfl))
  · intro hc K hK
    have hc2 := hc
    simp only [beq_iff_eq, decide_eq_true_eq, decide_eq_false_iff_not, Bool.or_eq_true, Bool.and_eq_true, Bool.or_eq_false_iff, Bool.and_eq_false_iff] at hc2
    simp (disch := first | omega | decide) only [go_sem, f0, opn_cond, hc, if_true]
    exact hK _
  iterate 2 (apply aops_step (by decide) rfl; · (intro K hK; simp (disch := first | omega | decide) only [go_sem, f0]; exact hK _))
  apply aops_merge' (by decide) (by first | exact want_of (d := 21) rfl (by simp (disch := first | omega | decide) only [go_sem, f0, opn_cond]; rfl) | exact want_of_cond (d := 21) rfl (by simp (disch := first | omega | decide) only [go_sem, f0, opn_cond]; rfl))
  · intro hc K hK
    have hc2 := hc
    simp only [beq_iff_eq, decide_eq_true_eq, decide_eq_false_iff_not, Bool.or_eq_true, Bool.and_eq_true, Bool.or_eq_false_iff, Bool.and_eq_false_iff] at hc2
    simp (disch := first | omega | decide) only [go_sem, f0, opn_cond, hc, if_true, act_fieldAddr_t fo47_2]
    first | rw [mwp_fieldAddr_b (by simp (disch := first | omega | decide) only [go_sem, f0, opn_cond, hc, if_true]; rfl)] | skip
    exact hK _
  apply aops_merge' (by decide) (by first | exact want_of (d := 21) rfl (by simp (disch := first | omega | decide) only [go_sem, f0, opn_cond]; rfl) | exact want_of_cond (d := 21) rfl (by simp (disch := first | omega | decide) only [go_sem, f0, opn_cond]; rfl))
  · intro hc K hK
    have hc2 := hc
    simp only [beq_iff_eq, decide_eq_true_eq, decide_eq_false_iff_not, Bool.or_eq_true, Bool.and_eq_true, Bool.or_eq_false_iff, Bool.and_eq_false_iff] at hc2
    simp (disch := first | omega | decide) only [go_sem, f0, opn_cond, hc, if_true, act_load_t ti3]
    first | rw [mwp_load_i1 (by rfl)] | rw [mwp_load_g1 (by first | (rw [hG]; rfl) | rfl) (by rfl)] | rw [mwp_load_gs (by first | (rw [hG]; rfl) | rfl) (by simp)] | rw [mwp_load_bs (by simp (disch := first | omega | decide) only [go_sem, f0, opn_cond, hc, if_true]; rfl) (by simp [setAt])] | rw [mwp_load_b1 (by simp (disch := first | omega | decide) only [go_sem, f0, opn_cond, hc, if_true]; rfl) (by rfl)] | rw [mwp_aLoad_map (by simp (disch := first | omega | decide) only [go_sem, f0, opn_cond, hc, if_true]; rfl) (by first | omega | (simp; omega)) (fun _ => rfl)] | rw [mwp_aLoad_e1 (by simp (disch := first | omega | decide) only [go_sem, f0, opn_cond, hc, if_true]; rfl) (by simp) rfl] | skip
    exact hK _
  apply aops_merge' (by decide) (by first | exact want_of (d := 21) rfl (by simp (disch := first | omega | decide) only [go_sem, f0, opn_cond]; rfl) | exact want_of_cond (d := 21) rfl (by simp (disch := first | omega | decide) only [go_sem, f0, opn_cond]; rfl))
  · intro hc K hK
    have hc2 := hc
    simp only [beq_iff_eq, decide_eq_true_eq, decide_eq_false_iff_not, Bool.or_eq_true, Bool.and_eq_true, Bool.or_eq_false_iff, Bool.and_eq_false_iff] at hc2
    simp (disch := first | omega | decide) only [go_sem, f0, opn_cond, hc, if_true]
    exact hK _
  iterate 2 (apply aops_step (by decide) rfl; · (intro K hK; simp (disch := first | omega | decide) only [go_sem, f0]; exact hK _))
  apply aops_merge' (by decide) (by first | exact want_of (d := 26) rfl (by simp (disch := first | omega | decide) only [go_sem, f0, opn_cond]; rfl) | exact want_of_cond (d := 26) rfl (by simp (disch := first | omega | decide) only [go_sem, f0, opn_cond]; rfl))
  · intro hc K hK
    have hc2 := hc
    simp only [beq_iff_eq, decide_eq_true_eq, decide_eq_false_iff_not, Bool.or_eq_true, Bool.and_eq_true, Bool.or_eq_false_iff, Bool.and_eq_false_iff] at hc2
    simp (disch := first | omega | decide) only [go_sem, f0, opn_cond, hc, if_true, act_fieldAddr_t fo47_2]
    first | rw [mwp_fieldAddr_b (by simp (disch := first | omega | decide) only [go_sem, f0, opn_cond, hc, if_true]; rfl)] | skip
    exact hK _
  apply aops_merge' (by decide) (by first | exact want_of (d := 26) rfl (by simp (disch := first | omega | decide) only [go_sem, f0, opn_cond]; rfl) | exact want_of_cond (d := 26) rfl (by simp (disch := first | omega | decide) only [go_sem, f0, opn_cond]; rfl))
  · intro hc K hK
    have hc2 := hc
    simp only [beq_iff_eq, decide_eq_true_eq, decide_eq_false_iff_not, Bool.or_eq_true, Bool.and_eq_true, Bool.or_eq_false_iff, Bool.and_eq_false_iff] at hc2
    simp (disch := first | omega | decide) only [go_sem, f0, opn_cond, hc, if_true, act_load_t ti3]
    first | rw [mwp_load_i1 (by rfl)] | rw [mwp_load_g1 (by first | (rw [hG]; rfl) | rfl) (by rfl)] | rw [mwp_load_gs (by first | (rw [hG]; rfl) | rfl) (by simp)] | rw [mwp_load_bs (by simp (disch := first | omega | decide) only [go_sem, f0, opn_cond, hc, if_true]; rfl) (by simp [setAt])] | rw [mwp_load_b1 (by simp (disch := first | omega | decide) only [go_sem, f0, opn_cond, hc, if_true]; rfl) (by rfl)] | rw [mwp_aLoad_map (by simp (disch := first | omega | decide) only [go_sem, f0, opn_cond, hc, if_true]; rfl) (by first | omega | (simp; omega)) (fun _ => rfl)] | rw [mwp_aLoad_e1 (by simp (disch := first | omega | decide) only [go_sem, f0, opn_cond, hc, if_true]; rfl) (by simp) rfl] | skip
    exact hK _
  apply aops_merge' (by decide) (by first | exact want_of (d := 26) rfl (by simp (disch := first | omega | decide) only [go_sem, f0, opn_cond]; rfl) | exact want_of_cond (d := 26) rfl (by simp (disch := first | omega | decide) only [go_sem, f0, opn_cond]; rfl))
  · intro hc K hK
    have hc2 := hc
    simp only [beq_iff_eq, decide_eq_true_eq, decide_eq_false_iff_not, Bool.or_eq_true, Bool.and_eq_true, Bool.or_eq_false_iff, Bool.and_eq_false_iff] at hc2
    simp (disch := first | omega | decide) only [go_sem, f0, opn_cond, hc, if_true]
    exact hK _
  iterate 2 (apply aops_step (by decide) rfl; · (intro K hK; simp (disch := first | omega | decide) only [go_sem, f0]; exact hK _))
  apply aops_merge' (by decide) (by first | exact want_of (d := 31) rfl (by simp (disch := first | omega | decide) only [go_sem, f0, opn_cond]; rfl) | exact want_of_cond (d := 31) rfl (by simp (disch := first | omega | decide) only [go_sem, f0, opn_cond]; rfl))
  · intro hc K hK
    have hc2 := hc
    simp only [beq_iff_eq, decide_eq_true_eq, decide_eq_false_iff_not, Bool.or_eq_true, Bool.and_eq_true, Bool.or_eq_false_iff, Bool.and_eq_false_iff] at hc2
    simp (disch := first | omega | decide) only [go_sem, f0, opn_cond, hc, if_true, act_fieldAddr_t fo47_3]
    first | rw [mwp_fieldAddr_b (by simp (disch := first | omega | decide) only [go_sem, f0, opn_cond, hc, if_true]; rfl)] | skip
    exact hK _
  apply aops_merge' (by decide) (by first | exact want_of (d := 31) rfl (by simp (disch := first | omega | decide) only [go_sem, f0, opn_cond]; rfl) | exact want_of_cond (d := 31) rfl (by simp (disch := first | omega | decide) only [go_sem, f0, opn_cond]; rfl))
  · intro hc K hK
    have hc2 := hc
    simp only [beq_iff_eq, decide_eq_true_eq, decide_eq_false_iff_not, Bool.or_eq_true, Bool.and_eq_true, Bool.or_eq_false_iff, Bool.and_eq_false_iff] at hc2
    simp (disch := first | omega | decide) only [go_sem, f0, opn_cond, hc, if_true, act_load_t ti3]
    first | rw [mwp_load_i1 (by rfl)] | rw [mwp_load_g1 (by first | (rw [hG]; rfl) | rfl) (by rfl)] | rw [mwp_load_gs (by first | (rw [hG]; rfl) | rfl) (by simp)] | rw [mwp_load_bs (by simp (disch := first | omega | decide) only [go_sem, f0, opn_cond, hc, if_true]; rfl) (by simp [setAt])] | rw [mwp_load_b1 (by simp (disch := first | omega | decide) only [go_sem, f0, opn_cond, hc, if_true]; rfl) (by rfl)] | rw [mwp_aLoad_map (by simp (disch := first | omega | decide) only [go_sem, f0, opn_cond, hc, if_true]; rfl) (by first | omega | (simp; omega)) (fun _ => rfl)] | rw [mwp_aLoad_e1 (by simp (disch := first | omega | decide) only [go_sem, f0, opn_cond, hc, if_true]; rfl) (by simp) rfl] | skip
    exact hK _
  apply aops_merge' (by decide) (by first | exact want_of (d := 31) rfl (by simp (disch := first | omega | decide) only [go_sem, f0, opn_cond]; rfl) | exact want_of_cond (d := 31) rfl (by simp (disch := first | omega | decide) only [go_sem, f0, opn_cond]; rfl))
  · intro hc K hK
    have hc2 := hc
    simp only [beq_iff_eq, decide_eq_true_eq, decide_eq_false_iff_not, Bool.or_eq_true, Bool.and_eq_true, Bool.or_eq_false_iff, Bool.and_eq_false_iff] at hc2
    simp (disch := first | omega | decide) only [go_sem, f0, opn_cond, hc, if_true]
    exact hK _
  iterate 2 (apply aops_step (by decide) rfl; · (intro K hK; simp (disch := first | omega | decide) only [go_sem, f0]; exact hK _))
  apply aops_merge' (by decide) (by first | exact want_of (d := 36) rfl (by simp (disch := first | omega | decide) only [go_sem, f0, opn_cond]; rfl) | exact want_of_cond (d := 36) rfl (by simp (disch := first | omega | decide) only [go_sem, f0, opn_cond]; rfl))
  · intro hc K hK
    have hc2 := hc
    simp only [beq_iff_eq, decide_eq_true_eq, decide_eq_false_iff_not, Bool.or_eq_true, Bool.and_eq_true, Bool.or_eq_false_iff, Bool.and_eq_false_iff] at hc2
    simp (disch := first | omega | decide) only [go_sem, f0, opn_cond, hc, if_true, act_fieldAddr_t fo47_3]
    first | rw [mwp_fieldAddr_b (by simp (disch := first | omega | decide) only [go_sem, f0, opn_cond, hc, if_true]; rfl)] | skip
    exact hK _
  apply aops_merge' (by decide) (by first | exact want_of (d := 36) rfl (by simp (disch := first | omega | decide) only [go_sem, f0, opn_cond]; rfl) | exact want_of_cond (d := 36) rfl (by simp (disch := first | omega | decide) only [go_sem, f0, opn_cond]; rfl))
  · intro hc K hK
    have hc2 := hc
    simp only [beq_iff_eq, decide_eq_true_eq, decide_eq_false_iff_not, Bool.or_eq_true, Bool.and_eq_true, Bool.or_eq_false_iff, Bool.and_eq_false_iff] at hc2
    simp (disch := first | omega | decide) only [go_sem, f0, opn_cond, hc, if_true, act_load_t ti3]
    first | rw [mwp_load_i1 (by rfl)] | rw [mwp_load_g1 (by first | (rw [hG]; rfl) | rfl) (by rfl)] | rw [mwp_load_gs (by first | (rw [hG]; rfl) | rfl) (by simp)] | rw [mwp_load_bs (by simp (disch := first | omega | decide) only [go_sem, f0, opn_cond, hc, if_true]; rfl) (by simp [setAt])] | rw [mwp_load_b1 (by simp (disch := first | omega | decide) only [go_sem, f0, opn_cond, hc, if_true]; rfl) (by rfl)] | rw [mwp_aLoad_map (by simp (disch := first | omega | decide) only [go_sem, f0, opn_cond, hc, if_true]; rfl) (by first | omega | (simp; omega)) (fun _ => rfl)] | rw [mwp_aLoad_e1 (by simp (disch := first | omega | decide) only [go_sem, f0, opn_cond, hc, if_true]; rfl) (by simp) rfl] | skip
    exact hK _
  apply aops_merge' (by decide) (by first | exact want_of (d := 36) rfl (by simp (disch := first | omega | decide) only [go_sem, f0, opn_cond]; rfl) | exact want_of_cond (d := 36) rfl (by simp (disch := first | omega | decide) only [go_sem, f0, opn_cond]; rfl))
  · intro hc K hK
    have hc2 := hc
    simp only [beq_iff_eq, decide_eq_true_eq, decide_eq_false_iff_not, Bool.or_eq_true, Bool.and_eq_true, Bool.or_eq_false_iff, Bool.and_eq_false_iff] at hc2
    simp (disch := first | omega | decide) only [go_sem, f0, opn_cond, hc, if_true]
    exact hK _
  iterate 2 (apply aops_step (by decide) rfl; · (intro K hK; simp (disch := first | omega | decide) only [go_sem, f0]; exact hK _))
  apply aops_merge' (by decide) (by first | exact want_of (d := 41) rfl (by simp (disch := first | omega | decide) only [go_sem, f0, opn_cond]; rfl) | exact want_of_cond (d := 41) rfl (by simp (disch := first | omega | decide) only [go_sem, f0, opn_cond]; rfl))
  · intro hc K hK
    have hc2 := hc
    simp only [beq_iff_eq, decide_eq_true_eq, decide_eq_false_iff_not, Bool.or_eq_true, Bool.and_eq_true, Bool.or_eq_false_iff, Bool.and_eq_false_iff] at hc2
    simp (disch := first | omega | decide) only [go_sem, f0, opn_cond, hc, if_true, act_fieldAddr_t fo47_6]
    first | rw [mwp_fieldAddr_b (by simp (disch := first | omega | decide) only [go_sem, f0, opn_cond, hc, if_true]; rfl)] | skip
    exact hK _
  apply aops_merge' (by decide) (by first | exact want_of (d := 41) rfl (by simp (disch := first | omega | decide) only [go_sem, f0, opn_cond]; rfl) | exact want_of_cond (d := 41) rfl (by simp (disch := first | omega | decide) only [go_sem, f0, opn_cond]; rfl))
  · intro hc K hK
    have hc2 := hc
    simp only [beq_iff_eq, decide_eq_true_eq, decide_eq_false_iff_not, Bool.or_eq_true, Bool.and_eq_true, Bool.or_eq_false_iff, Bool.and_eq_false_iff] at hc2
    simp (disch := first | omega | decide) only [go_sem, f0, opn_cond, hc, if_true, act_load_t ti3]
    first | rw [mwp_load_i1 (by rfl)] | rw [mwp_load_g1 (by first | (rw [hG]; rfl) | rfl) (by rfl)] | rw [mwp_load_gs (by first | (rw [hG]; rfl) | rfl) (by simp)] | rw [mwp_load_bs (by simp (disch := first | omega | decide) only [go_sem, f0, opn_cond, hc, if_true]; rfl) (by simp [setAt])] | rw [mwp_load_b1 (by simp (disch := first | omega | decide) only [go_sem, f0, opn_cond, hc, if_true]; rfl) (by rfl)] | rw [mwp_aLoad_map (by simp (disch := first | omega | decide) only [go_sem, f0, opn_cond, hc, if_true]; rfl) (by first | omega | (simp; omega)) (fun _ => rfl)] | rw [mwp_aLoad_e1 (by simp (disch := first | omega | decide) only [go_sem, f0, opn_cond, hc, if_true]; rfl) (by simp) rfl] | skip
    exact hK _
  apply aops_merge' (by decide) (by first | exact want_of (d := 41) rfl (by simp (disch := first | omega | decide) only [go_sem, f0, opn_cond]; rfl) | exact want_of_cond (d := 41) rfl (by simp (disch := first | omega | decide) only [go_sem, f0, opn_cond]; rfl))
  · intro hc K hK
    have hc2 := hc
    simp only [beq_iff_eq, decide_eq_true_eq, decide_eq_false_iff_not, Bool.or_eq_true, Bool.and_eq_true, Bool.or_eq_false_iff, Bool.and_eq_false_iff] at hc2
    simp (disch := first | omega | decide) only [go_sem, f0, opn_cond, hc, if_true]
    exact hK _
  iterate 2 (apply aops_step (by decide) rfl; · (intro K hK; simp (disch := first | omega | decide) only [go_sem, f0]; exact hK _))
  apply aops_merge' (by decide) (by first | exact want_of (d := 46) rfl (by simp (disch := first | omega | decide) only [go_sem, f0, opn_cond]; rfl) | exact want_of_cond (d := 46) rfl (by simp (disch := first | omega | decide) only [go_sem, f0, opn_cond]; rfl))
  · intro hc K hK
    have hc2 := hc
    simp only [beq_iff_eq, decide_eq_true_eq, decide_eq_false_iff_not, Bool.or_eq_true, Bool.and_eq_true, Bool.or_eq_false_iff, Bool.and_eq_false_iff] at hc2
    simp (disch := first | omega | decide) only [go_sem, f0, opn_cond, hc, if_true, act_fieldAddr_t fo47_6]
    first | rw [mwp_fieldAddr_b (by simp (disch := first | omega | decide) only [go_sem, f0, opn_cond, hc, if_true]; rfl)] | skip
    exact hK _
  apply aops_merge' (by decide) (by first | exact want_of (d := 46) rfl (by simp (disch := first | omega | decide) only [go_sem, f0, opn_cond]; rfl) | exact want_of_cond (d := 46) rfl (by simp (disch := first | omega | decide) only [go_sem, f0, opn_cond]; rfl))
  · intro hc K hK
    have hc2 := hc
    simp only [beq_iff_eq, decide_eq_true_eq, decide_eq_false_iff_not, Bool.or_eq_true, Bool.and_eq_true, Bool.or_eq_false_iff, Bool.and_eq_false_iff] at hc2
    simp (disch := first | omega | decide) only [go_sem, f0, opn_cond, hc, if_true, act_load_t ti3]
    first | rw [mwp_load_i1 (by rfl)] | rw [mwp_load_g1 (by first | (rw [hG]; rfl) | rfl) (by rfl)] | rw [mwp_load_gs (by first | (rw [hG]; rfl) | rfl) (by simp)] | rw [mwp_load_bs (by simp (disch := first | omega | decide) only [go_sem, f0, opn_cond, hc, if_true]; rfl) (by simp [setAt])] | rw [mwp_load_b1 (by simp (disch := first | omega | decide) only [go_sem, f0, opn_cond, hc, if_true]; rfl) (by rfl)] | rw [mwp_aLoad_map (by simp (disch := first | omega | decide) only [go_sem, f0, opn_cond, hc, if_true]; rfl) (by first | omega | (simp; omega)) (fun _ => rfl)] | rw [mwp_aLoad_e1 (by simp (disch := first | omega | decide) only [go_sem, f0, opn_cond, hc, if_true]; rfl) (by simp) rfl] | skip
    exact hK _
  apply aops_merge' (by decide) (by first | exact want_of (d := 46) rfl (by simp (disch := first | omega | decide) only [go_sem, f0, opn_cond]; rfl) | exact want_of_cond (d := 46) rfl (by simp (disch := first | omega | decide) only [go_sem, f0, opn_cond]; rfl))
  · intro hc K hK
    have hc2 := hc
    simp only [beq_iff_eq, decide_eq_true_eq, decide_eq_false_iff_not, Bool.or_eq_true, Bool.and_eq_true, Bool.or_eq_false_iff, Bool.and_eq_false_iff] at hc2
    simp (disch := first | omega | decide) only [go_sem, f0, opn_cond, hc, if_true]
    exact hK _
  iterate 1 (apply aops_step (by decide) rfl; · (intro K hK; simp (disch := first | omega | decide) only [go_sem, f0]; exact hK _))
  refine aops_nil ?_
  apply AW.cond
  · simp (disch := first | omega | decide) only [go_sem, f0]; rfl
  case ht =>
    intro hb
    try simp only [Bool.or_eq_true, Bool.and_eq_true, Bool.or_eq_false_iff, Bool.and_eq_false_iff, decide_eq_true_eq, decide_eq_false_iff_not] at hb
    have hbt50 := hb
    refine AW.seq ?_
    refine AW.region (cfg := cfg) ?_
    iterate 1 (apply aops_step (by decide) rfl; · (intro K hK; simp (disch := first | omega | decide) only [go_sem, f0]; exact hK _))
    refine aops_nil ?_
    refine AW.ret ?_
    refine ⟨.inr rfl, ?_⟩
    refine leaves_tmp1 2 rfl ?_ (by first | rfl | exact hG)
    simp (disch := first | omega | decide) only [go_sem, f0]
    clear hr hv hG f0
    obtain ⟨of, co, bo, ep, he, fu, ag, go⟩ := n
    all_goals (cases he <;> cases fu <;> cases go <;> simp_all [bad, okA, wi] <;> first | done | omega | (rw [Bool.eq_iff_iff]; simp; omega) | (split <;> simp_all <;> omega) | grind | trace_state)
  case hf =>
    intro hb
    try simp only [Bool.or_eq_true, Bool.and_eq_true, Bool.or_eq_false_iff, Bool.and_eq_false_iff, decide_eq_true_eq, decide_eq_false_iff_not] at hb
    have hbt50 := hb
    refine AW.skip ?_
    refine AW.seq ?_
    refine AW.seq ?_
    refine AW.region (cfg := cfg) ?_
    apply aops_step (by decide) rfl
    · intro K hK
      simp (disch := first | omega | decide) only [go_sem, f0, act_fieldAddr_t fo47_4, List.map]
      first | rw [mwp_fieldAddr_b (by simp (disch := first | omega | decide) only [go_sem, f0]; rfl)] | skip
      exact hK _
    apply aops_step (by decide) rfl
    · intro K hK
      simp (disch := first | omega | decide) only [go_sem, f0, act_load_t ti4, List.map]
      first | rw [mwp_load_i1 (by rfl)] | rw [mwp_load_g1 (by first | (rw [hG]; rfl) | rfl) (by rfl)] | rw [mwp_load_gs (by first | (rw [hG]; rfl) | rfl) (by simp)] | rw [mwp_load_bs (by simp (disch := first | omega | decide) only [go_sem, f0]; rfl) (by simp [setAt])] | rw [mwp_load_b1 (by simp (disch := first | omega | decide) only [go_sem, f0]; rfl) (by rfl)] | rw [mwp_aLoad_map (by simp (disch := first | omega | decide) only [go_sem, f0]; rfl) (by first | omega | (simp; omega)) (fun _ => rfl)] | rw [mwp_aLoad_e1 (by simp (disch := first | omega | decide) only [go_sem, f0]; rfl) (by simp) rfl] | skip
      exact hK _
    refine aops_nil ?_
    apply AW.cond
    · simp (disch := first | omega | decide) only [go_sem, f0]; rfl
    case ht =>
      intro hb
      try simp only [Bool.or_eq_true, Bool.and_eq_true, Bool.or_eq_false_iff, Bool.and_eq_false_iff, decide_eq_true_eq, decide_eq_false_iff_not] at hb
      have hbt52 := hb
      refine AW.seq ?_
      refine AW.region (cfg := cfg) ?_
      apply aops_step (by decide) rfl
      · intro K hK
        simp (disch := first | omega | decide) only [go_sem, f0, act_fieldAddr_t fo47_2, List.map]
        first | rw [mwp_fieldAddr_b (by simp (disch := first | omega | decide) only [go_sem, f0]; rfl)] | skip
        exact hK _
      apply aops_step (by decide) rfl
      · intro K hK
        simp (disch := first | omega | decide) only [go_sem, f0, act_load_t ti3, List.map]
        first | rw [mwp_load_i1 (by rfl)] | rw [mwp_load_g1 (by first | (rw [hG]; rfl) | rfl) (by rfl)] | rw [mwp_load_gs (by first | (rw [hG]; rfl) | rfl) (by simp)] | rw [mwp_load_bs (by simp (disch := first | omega | decide) only [go_sem, f0]; rfl) (by simp [setAt])] | rw [mwp_load_b1 (by simp (disch := first | omega | decide) only [go_sem, f0]; rfl) (by rfl)] | rw [mwp_aLoad_map (by simp (disch := first | omega | decide) only [go_sem, f0]; rfl) (by first | omega | (simp; omega)) (fun _ => rfl)] | rw [mwp_aLoad_e1 (by simp (disch := first | omega | decide) only [go_sem, f0]; rfl) (by simp) rfl] | skip
        exact hK _
      iterate 2 (apply aops_step (by decide) rfl; · (intro K hK; simp (disch := first | omega | decide) only [go_sem, f0]; exact hK _))
      apply aops_merge' (by decide) (by first | exact want_of (d := 56) rfl (by simp (disch := first | omega | decide) only [go_sem, f0, opn_cond]; rfl) | exact want_of_cond (d := 56) rfl (by simp (disch := first | omega | decide) only [go_sem, f0, opn_cond]; rfl))
      · intro hc K hK
        have hc2 := hc
        simp only [beq_iff_eq, decide_eq_true_eq, decide_eq_false_iff_not, Bool.or_eq_true, Bool.and_eq_true, Bool.or_eq_false_iff, Bool.and_eq_false_iff] at hc2
        simp (disch := first | omega | decide) only [go_sem, f0, opn_cond, hc, if_true, act_fieldAddr_t fo47_1]
        first | rw [mwp_fieldAddr_b (by simp (disch := first | omega | decide) only [go_sem, f0, opn_cond, hc, if_true]; rfl)] | skip
        exact hK _
      apply aops_merge' (by decide) (by first | exact want_of (d := 56) rfl (by simp (disch := first | omega | decide) only [go_sem, f0, opn_cond]; rfl) | exact want_of_cond (d := 56) rfl (by simp (disch := first | omega | decide) only [go_sem, f0, opn_cond]; rfl))
      · intro hc K hK
        have hc2 := hc
        simp only [beq_iff_eq, decide_eq_true_eq, decide_eq_false_iff_not, Bool.or_eq_true, Bool.and_eq_true, Bool.or_eq_false_iff, Bool.and_eq_false_iff] at hc2
        simp (disch := first | omega | decide) only [go_sem, f0, opn_cond, hc, if_true, act_load_t ti3]
        first | rw [mwp_load_i1 (by rfl)] | rw [mwp_load_g1 (by first | (rw [hG]; rfl) | rfl) (by rfl)] | rw [mwp_load_gs (by first | (rw [hG]; rfl) | rfl) (by simp)] | rw [mwp_load_bs (by simp (disch := first | omega | decide) only [go_sem, f0, opn_cond, hc, if_true]; rfl) (by simp [setAt])] | rw [mwp_load_b1 (by simp (disch := first | omega | decide) only [go_sem, f0, opn_cond, hc, if_true]; rfl) (by rfl)] | rw [mwp_aLoad_map (by simp (disch := first | omega | decide) only [go_sem, f0, opn_cond, hc, if_true]; rfl) (by first | omega | (simp; omega)) (fun _ => rfl)] | rw [mwp_aLoad_e1 (by simp (disch := first | omega | decide) only [go_sem, f0, opn_cond, hc, if_true]; rfl) (by simp) rfl] | skip
        exact hK _
      apply aops_merge' (by decide) (by first | exact want_of (d := 56) rfl (by simp (disch := first | omega | decide) only [go_sem, f0, opn_cond]; rfl) | exact want_of_cond (d := 56) rfl (by simp (disch := first | omega | decide) only [go_sem, f0, opn_cond]; rfl))
      · intro hc K hK
        have hc2 := hc
        simp only [beq_iff_eq, decide_eq_true_eq, decide_eq_false_iff_not, Bool.or_eq_true, Bool.and_eq_true, Bool.or_eq_false_iff, Bool.and_eq_false_iff] at hc2
        simp (disch := first | omega | decide) only [go_sem, f0, opn_cond, hc, if_true]
        exact hK _
      iterate 2 (apply aops_step (by decide) rfl; · (intro K hK; simp (disch := first | omega | decide) only [go_sem, f0]; exact hK _))
      apply aops_merge' (by decide) (by first | exact want_of (d := 61) rfl (by simp (disch := first | omega | decide) only [go_sem, f0, opn_cond]; rfl) | exact want_of_cond (d := 61) rfl (by simp (disch := first | omega | decide) only [go_sem, f0, opn_cond]; rfl))
      · intro hc K hK
        have hc2 := hc
        simp only [beq_iff_eq, decide_eq_true_eq, decide_eq_false_iff_not, Bool.or_eq_true, Bool.and_eq_true, Bool.or_eq_false_iff, Bool.and_eq_false_iff] at hc2
        simp (disch := first | omega | decide) only [go_sem, f0, opn_cond, hc, if_true, act_fieldAddr_t fo47_5]
        first | rw [mwp_fieldAddr_b (by simp (disch := first | omega | decide) only [go_sem, f0, opn_cond, hc, if_true]; rfl)] | skip
        exact hK _
      apply aops_merge' (by decide) (by first | exact want_of (d := 61) rfl (by simp (disch := first | omega | decide) only [go_sem, f0, opn_cond]; rfl) | exact want_of_cond (d := 61) rfl (by simp (disch := first | omega | decide) only [go_sem, f0, opn_cond]; rfl))
      · intro hc K hK
        have hc2 := hc
        simp only [beq_iff_eq, decide_eq_true_eq, decide_eq_false_iff_not, Bool.or_eq_true, Bool.and_eq_true, Bool.or_eq_false_iff, Bool.and_eq_false_iff] at hc2
        simp (disch := first | omega | decide) only [go_sem, f0, opn_cond, hc, if_true, act_load_t ti4]
        first | rw [mwp_load_i1 (by rfl)] | rw [mwp_load_g1 (by first | (rw [hG]; rfl) | rfl) (by rfl)] | rw [mwp_load_gs (by first | (rw [hG]; rfl) | rfl) (by simp)] | rw [mwp_load_bs (by simp (disch := first | omega | decide) only [go_sem, f0, opn_cond, hc, if_true]; rfl) (by simp [setAt])] | rw [mwp_load_b1 (by simp (disch := first | omega | decide) only [go_sem, f0, opn_cond, hc, if_true]; rfl) (by rfl)] | rw [mwp_aLoad_map (by simp (disch := first | omega | decide) only [go_sem, f0, opn_cond, hc, if_true]; rfl) (by first | omega | (simp; omega)) (fun _ => rfl)] | rw [mwp_aLoad_e1 (by simp (disch := first | omega | decide) only [go_sem, f0, opn_cond, hc, if_true]; rfl) (by simp) rfl] | skip
        exact hK _
      apply aops_merge' (by decide) (by first | exact want_of (d := 61) rfl (by simp (disch := first | omega | decide) only [go_sem, f0, opn_cond]; rfl) | exact want_of_cond (d := 61) rfl (by simp (disch := first | omega | decide) only [go_sem, f0, opn_cond]; rfl))
      · intro hc K hK
        have hc2 := hc
        simp only [beq_iff_eq, decide_eq_true_eq, decide_eq_false_iff_not, Bool.or_eq_true, Bool.and_eq_true, Bool.or_eq_false_iff, Bool.and_eq_false_iff] at hc2
        simp (disch := first | omega | decide) only [go_sem, f0, opn_cond, hc, if_true]
        exact hK _
      apply aops_merge' (by decide) (by first | exact want_of (d := 64) rfl (by simp (disch := first | omega | decide) only [go_sem, f0, opn_cond]; rfl) | exact want_of_cond (d := 64) rfl (by simp (disch := first | omega | decide) only [go_sem, f0, opn_cond]; rfl))
      · intro hc K hK
        have hc2 := hc
        simp only [beq_iff_eq, decide_eq_true_eq, decide_eq_false_iff_not, Bool.or_eq_true, Bool.and_eq_true, Bool.or_eq_false_iff, Bool.and_eq_false_iff] at hc2
        simp (disch := first | omega | decide) only [go_sem, f0, opn_cond, hc, if_true, act_fieldAddr_t fo47_7]
        first | rw [mwp_fieldAddr_b (by simp (disch := first | omega | decide) only [go_sem, f0, opn_cond, hc, if_true]; rfl)] | skip
        exact hK _
      apply aops_merge' (by decide) (by first | exact want_of (d := 64) rfl (by simp (disch := first | omega | decide) only [go_sem, f0, opn_cond]; rfl) | exact want_of_cond (d := 64) rfl (by simp (disch := first | omega | decide) only [go_sem, f0, opn_cond]; rfl))
      · intro hc K hK
        have hc2 := hc
        simp only [beq_iff_eq, decide_eq_true_eq, decide_eq_false_iff_not, Bool.or_eq_true, Bool.and_eq_true, Bool.or_eq_false_iff, Bool.and_eq_false_iff] at hc2
        simp (disch := first | omega | decide) only [go_sem, f0, opn_cond, hc, if_true, act_load_t ti4]
        first | rw [mwp_load_i1 (by rfl)] | rw [mwp_load_g1 (by first | (rw [hG]; rfl) | rfl) (by rfl)] | rw [mwp_load_gs (by first | (rw [hG]; rfl) | rfl) (by simp)] | rw [mwp_load_bs (by simp (disch := first | omega | decide) only [go_sem, f0, opn_cond, hc, if_true]; rfl) (by simp [setAt])] | rw [mwp_load_b1 (by simp (disch := first | omega | decide) only [go_sem, f0, opn_cond, hc, if_true]; rfl) (by rfl)] | rw [mwp_aLoad_map (by simp (disch := first | omega | decide) only [go_sem, f0, opn_cond, hc, if_true]; rfl) (by first | omega | (simp; omega)) (fun _ => rfl)] | rw [mwp_aLoad_e1 (by simp (disch := first | omega | decide) only [go_sem, f0, opn_cond, hc, if_true]; rfl) (by simp) rfl] | skip
        exact hK _
      apply aops_merge' (by decide) (by first | exact want_of (d := 64) rfl (by simp (disch := first | omega | decide) only [go_sem, f0, opn_cond]; rfl) | exact want_of_cond (d := 64) rfl (by simp (disch := first | omega | decide) only [go_sem, f0, opn_cond]; rfl))
      · intro hc K hK
        have hc2 := hc
        simp only [beq_iff_eq, decide_eq_true_eq, decide_eq_false_iff_not, Bool.or_eq_true, Bool.and_eq_true, Bool.or_eq_false_iff, Bool.and_eq_false_iff] at hc2
        simp (disch := first | omega | decide) only [go_sem, f0, opn_cond, hc, if_true]
        exact hK _
      apply aops_merge' (by decide) (by first | exact want_of (d := 61) rfl (by simp (disch := first | omega | decide) only [go_sem, f0, opn_cond]; rfl) | exact want_of_cond (d := 61) rfl (by simp (disch := first | omega | decide) only [go_sem, f0, opn_cond]; rfl))
      · intro hc K hK
        have hc2 := hc
        simp only [beq_iff_eq, decide_eq_true_eq, decide_eq_false_iff_not, Bool.or_eq_true, Bool.and_eq_true, Bool.or_eq_false_iff, Bool.and_eq_false_iff] at hc2
        simp (disch := first | omega | decide) only [go_sem, f0, opn_cond, hc, if_true]
        exact hK _
      iterate 2 (apply aops_step (by decide) rfl; · (intro K hK; simp (disch := first | omega | decide) only [go_sem, f0]; exact hK _))
      refine aops_nil ?_
      refine AW.ret ?_
      refine ⟨.inr rfl, ?_⟩
      refine leaves_tmp1 2 rfl ?_ (by first | rfl | exact hG)
      simp (disch := first | omega | decide) only [go_sem, f0]
      clear hr hv hG f0
      obtain ⟨of, co, bo, ep, he, fu, ag, go⟩ := n
      all_goals (cases he <;> cases fu <;> cases go <;> simp_all [bad, okA, wi] <;> first | done | omega | (rw [Bool.eq_iff_iff]; simp; omega) | (split <;> simp_all <;> omega) | grind | trace_state)
    case hf =>
      intro hb
      try simp only [Bool.or_eq_true, Bool.and_eq_true, Bool.or_eq_false_iff, Bool.and_eq_false_iff, decide_eq_true_eq, decide_eq_false_iff_not] at hb
      have hbt52 := hb
      refine AW.skip ?_
      refine AW.seq ?_
      refine AW.region (cfg := cfg) ?_
      apply aops_step (by decide) rfl
      · intro K hK
        simp (disch := first | omega | decide) only [go_sem, f0, act_fieldAddr_t fo47_6, List.map]
        first | rw [mwp_fieldAddr_b (by simp (disch := first | omega | decide) only [go_sem, f0]; rfl)] | skip
        exact hK _
      apply aops_step (by decide) rfl
      · intro K hK
        simp (disch := first | omega | decide) only [go_sem, f0, act_load_t ti3, List.map]
        first | rw [mwp_load_i1 (by rfl)] | rw [mwp_load_g1 (by first | (rw [hG]; rfl) | rfl) (by rfl)] | rw [mwp_load_gs (by first | (rw [hG]; rfl) | rfl) (by simp)] | rw [mwp_load_bs (by simp (disch := first | omega | decide) only [go_sem, f0]; rfl) (by simp [setAt])] | rw [mwp_load_b1 (by simp (disch := first | omega | decide) only [go_sem, f0]; rfl) (by rfl)] | rw [mwp_aLoad_map (by simp (disch := first | omega | decide) only [go_sem, f0]; rfl) (by first | omega | (simp; omega)) (fun _ => rfl)] | rw [mwp_aLoad_e1 (by simp (disch := first | omega | decide) only [go_sem, f0]; rfl) (by simp) rfl] | skip
        exact hK _
      iterate 2 (apply aops_step (by decide) rfl; · (intro K hK; simp (disch := first | omega | decide) only [go_sem, f0]; exact hK _))
      apply aops_merge' (by decide) (by first | exact want_of (d := 73) rfl (by simp (disch := first | omega | decide) only [go_sem, f0, opn_cond]; rfl) | exact want_of_cond (d := 73) rfl (by simp (disch := first | omega | decide) only [go_sem, f0, opn_cond]; rfl))
      · intro hc K hK
        have hc2 := hc
        simp only [beq_iff_eq, decide_eq_true_eq, decide_eq_false_iff_not, Bool.or_eq_true, Bool.and_eq_true, Bool.or_eq_false_iff, Bool.and_eq_false_iff] at hc2
        simp (disch := first | omega | decide) only [go_sem, f0, opn_cond, hc, if_true, act_fieldAddr_t fo47_5]
        first | rw [mwp_fieldAddr_b (by simp (disch := first | omega | decide) only [go_sem, f0, opn_cond, hc, if_true]; rfl)] | skip
        exact hK _
      apply aops_merge' (by decide) (by first | exact want_of (d := 73) rfl (by simp (disch := first | omega | decide) only [go_sem, f0, opn_cond]; rfl) | exact want_of_cond (d := 73) rfl (by simp (disch := first | omega | decide) only [go_sem, f0, opn_cond]; rfl))
      · intro hc K hK
        have hc2 := hc
        simp only [beq_iff_eq, decide_eq_true_eq, decide_eq_false_iff_not, Bool.or_eq_true, Bool.and_eq_true, Bool.or_eq_false_iff, Bool.and_eq_false_iff] at hc2
        simp (disch := first | omega | decide) only [go_sem, f0, opn_cond, hc, if_true, act_load_t ti4]
        first | rw [mwp_load_i1 (by rfl)] | rw [mwp_load_g1 (by first | (rw [hG]; rfl) | rfl) (by rfl)] | rw [mwp_load_gs (by first | (rw [hG]; rfl) | rfl) (by simp)] | rw [mwp_load_bs (by simp (disch := first | omega | decide) only [go_sem, f0, opn_cond, hc, if_true]; rfl) (by simp [setAt])] | rw [mwp_load_b1 (by simp (disch := first | omega | decide) only [go_sem, f0, opn_cond, hc, if_true]; rfl) (by rfl)] | rw [mwp_aLoad_map (by simp (disch := first | omega | decide) only [go_sem, f0, opn_cond, hc, if_true]; rfl) (by first | omega | (simp; omega)) (fun _ => rfl)] | rw [mwp_aLoad_e1 (by simp (disch := first | omega | decide) only [go_sem, f0, opn_cond, hc, if_true]; rfl) (by simp) rfl] | skip
        exact hK _
      apply aops_merge' (by decide) (by first | exact want_of (d := 73) rfl (by simp (disch := first | omega | decide) only [go_sem, f0, opn_cond]; rfl) | exact want_of_cond (d := 73) rfl (by simp (disch := first | omega | decide) only [go_sem, f0, opn_cond]; rfl))
      · intro hc K hK
        have hc2 := hc
        simp only [beq_iff_eq, decide_eq_true_eq, decide_eq_false_iff_not, Bool.or_eq_true, Bool.and_eq_true, Bool.or_eq_false_iff, Bool.and_eq_false_iff] at hc2
        simp (disch := first | omega | decide) only [go_sem, f0, opn_cond, hc, if_true]
        exact hK _
      iterate 2 (apply aops_step (by decide) rfl; · (intro K hK; simp (disch := first | omega | decide) only [go_sem, f0]; exact hK _))
      apply aops_merge' (by decide) (by first | exact want_of (d := 78) rfl (by simp (disch := first | omega | decide) only [go_sem, f0, opn_cond]; rfl) | exact want_of_cond (d := 78) rfl (by simp (disch := first | omega | decide) only [go_sem, f0, opn_cond]; rfl))
      · intro hc K hK
        have hc2 := hc
        simp only [beq_iff_eq, decide_eq_true_eq, decide_eq_false_iff_not, Bool.or_eq_true, Bool.and_eq_true, Bool.or_eq_false_iff, Bool.and_eq_false_iff] at hc2
        simp (disch := first | omega | decide) only [go_sem, f0, opn_cond, hc, if_true, act_fieldAddr_t fo47_7]
        first | rw [mwp_fieldAddr_b (by simp (disch := first | omega | decide) only [go_sem, f0, opn_cond, hc, if_true]; rfl)] | skip
        exact hK _
      apply aops_merge' (by decide) (by first | exact want_of (d := 78) rfl (by simp (disch := first | omega | decide) only [go_sem, f0, opn_cond]; rfl) | exact want_of_cond (d := 78) rfl (by simp (disch := first | omega | decide) only [go_sem, f0, opn_cond]; rfl))
      · intro hc K hK
        have hc2 := hc
        simp only [beq_iff_eq, decide_eq_true_eq, decide_eq_false_iff_not, Bool.or_eq_true, Bool.and_eq_true, Bool.or_eq_false_iff, Bool.and_eq_false_iff] at hc2
        simp (disch := first | omega | decide) only [go_sem, f0, opn_cond, hc, if_true, act_load_t ti4]
        first | rw [mwp_load_i1 (by rfl)] | rw [mwp_load_g1 (by first | (rw [hG]; rfl) | rfl) (by rfl)] | rw [mwp_load_gs (by first | (rw [hG]; rfl) | rfl) (by simp)] | rw [mwp_load_bs (by simp (disch := first | omega | decide) only [go_sem, f0, opn_cond, hc, if_true]; rfl) (by simp [setAt])] | rw [mwp_load_b1 (by simp (disch := first | omega | decide) only [go_sem, f0, opn_cond, hc, if_true]; rfl) (by rfl)] | rw [mwp_aLoad_map (by simp (disch := first | omega | decide) only [go_sem, f0, opn_cond, hc, if_true]; rfl) (by first | omega | (simp; omega)) (fun _ => rfl)] | rw [mwp_aLoad_e1 (by simp (disch := first | omega | decide) only [go_sem, f0, opn_cond, hc, if_true]; rfl) (by simp) rfl] | skip
        exact hK _
      apply aops_merge' (by decide) (by first | exact want_of (d := 78) rfl (by simp (disch := first | omega | decide) only [go_sem, f0, opn_cond]; rfl) | exact want_of_cond (d := 78) rfl (by simp (disch := first | omega | decide) only [go_sem, f0, opn_cond]; rfl))
      · intro hc K hK
        have hc2 := hc
        simp only [beq_iff_eq, decide_eq_true_eq, decide_eq_false_iff_not, Bool.or_eq_true, Bool.and_eq_true, Bool.or_eq_false_iff, Bool.and_eq_false_iff] at hc2
        simp (disch := first | omega | decide) only [go_sem, f0, opn_cond, hc, if_true]
        exact hK _
      iterate 2 (apply aops_step (by decide) rfl; · (intro K hK; simp (disch := first | omega | decide) only [go_sem, f0]; exact hK _))
      refine aops_nil ?_
      refine AW.ret ?_
      refine ⟨.inr rfl, ?_⟩
      refine leaves_tmp1 2 rfl ?_ (by first | rfl | exact hG)
      simp (disch := first | omega | decide) only [go_sem, f0]
      clear hr hv hG f0
      obtain ⟨of, co, bo, ep, he, fu, ag, go⟩ := n
      all_goals (cases he <;> cases fu <;> cases go <;> simp_all [bad, okA, wi] <;> first | done | omega | (rw [Bool.eq_iff_iff]; simp; omega) | (split <;> simp_all <;> omega) | grind | trace_state)

set_option maxHeartbeats 4000000 in
set_option maxRecDepth 100000 in
theorem good_gone (n : Near) : Good Try.prog 63 [(.agg [i64 (n).of, i64 (n).co, i64 (n).bo, i64 (n).ep, .b (n).he, .b (n).fu, i64 (n).ag, .b (n).go], false)] [] [(.agg [i64 (gone n).of, i64 (gone n).co, i64 (gone n).bo, i64 (gone n).ep, .b (gone n).he, .b (gone n).fu, i64 (gone n).ag, .b (gone n).go], false)] [] := by
  refine good_of_body2 6 Try.func63 rfl rfl rfl (by simp) ?_
  intro s m ha hr hv hG
  have f0 : s 0 = .v (.agg [i64 (n).of, i64 (n).co, i64 (n).bo, i64 (n).ep, .b (n).he, .b (n).fu, i64 (n).ag, .b (n).go]) := ha 0 _ rfl
  clear ha
  refine AW.seq ?_
  refine AW.region (cfg := cfg) ?_
  apply aops_step (by decide) rfl
  · intro K hK
    simp (disch := first | omega | decide) only [go_sem, f0, act_box_t ti47, List.map]
    rw [settleL_vish _ _ (by rfl)]
    simp (disch := first | omega | decide) only [go_sem, f0, cellsL, List.map, List.length_cons, List.length_nil, Nat.reduceAdd, if_true]
    exact hK _
  apply aops_step (by decide) rfl
  · intro K hK
    simp (disch := first | omega | decide) only [go_sem, f0, act_alloc_t ti47, List.map]
    exact hK _
  refine aops_nil ?_
  refine AW.seq ?_
  refine AW.region (cfg := cfg) ?_
  apply aops_step (by decide) rfl
  · intro K hK
    simp (disch := first | omega | decide) only [go_sem, f0, act_fieldAddr_t fo47_5, List.map]
    first | rw [mwp_fieldAddr_b (by simp (disch := first | omega | decide) only [go_sem, f0]; rfl)] | skip
    exact hK _
  apply aops_step0 rfl
  · intro K hK
    simp (disch := first | omega | decide) only [go_sem, f0, act_store_t ti4, List.map]
    first | rw [mwp_store_g1 (by first | (rw [hG]; rfl) | rfl) (by simp) rfl rfl] | rw [mwp_store_c (by simp (disch := first | omega | decide) only [go_sem, f0]; rfl) (by rfl) (by rfl) (by rfl) (by simp)] | rw [mwp_aStore_map (by simp (disch := first | omega | decide) only [go_sem, f0]; rfl) (by first | omega | (simp; omega)) (fun _ => rfl) rfl rfl (fun _ => rfl)] | skip
    try simp only [setAt, cellsL, cellsOf_agg, cellsOf_base, List.map_cons, List.map_nil, List.set_cons_zero, List.set_cons_succ, Nat.reduceAdd, Nat.zero_add, hG]
    exact hK _
  apply aops_step (by decide) rfl
  · intro K hK
    simp (disch := first | omega | decide) only [go_sem, f0, act_fieldAddr_t fo47_7, List.map]
    first | rw [mwp_fieldAddr_b (by simp (disch := first | omega | decide) only [go_sem, f0]; rfl)] | skip
    exact hK _
  apply aops_step0 rfl
  · intro K hK
    simp (disch := first | omega | decide) only [go_sem, f0, act_store_t ti4, List.map]
    first | rw [mwp_store_g1 (by first | (rw [hG]; rfl) | rfl) (by simp) rfl rfl] | rw [mwp_store_c (by simp (disch := first | omega | decide) only [go_sem, f0]; rfl) (by rfl) (by rfl) (by rfl) (by simp)] | rw [mwp_aStore_map (by simp (disch := first | omega | decide) only [go_sem, f0]; rfl) (by first | omega | (simp; omega)) (fun _ => rfl) rfl rfl (fun _ => rfl)] | skip
    try simp only [setAt, cellsL, cellsOf_agg, cellsOf_base, List.map_cons, List.map_nil, List.set_cons_zero, List.set_cons_succ, Nat.reduceAdd, Nat.zero_add, hG]
    exact hK _
  refine aops_nil ?_
  refine AW.seq ?_
  refine AW.region (cfg := cfg) ?_
  apply aops_step (by decide) rfl
  · intro K hK
    simp (disch := first | omega | decide) only [go_sem, f0, act_load_t ti47, List.map]
    first | rw [mwp_load_i1 (by rfl)] | rw [mwp_load_g1 (by first | (rw [hG]; rfl) | rfl) (by rfl)] | rw [mwp_load_gs (by first | (rw [hG]; rfl) | rfl) (by simp)] | rw [mwp_load_bs (by simp (disch := first | omega | decide) only [go_sem, f0]; rfl) (by simp [setAt])] | rw [mwp_load_b1 (by simp (disch := first | omega | decide) only [go_sem, f0]; rfl) (by rfl)] | rw [mwp_aLoad_map (by simp (disch := first | omega | decide) only [go_sem, f0]; rfl) (by first | omega | (simp; omega)) (fun _ => rfl)] | rw [mwp_aLoad_e1 (by simp (disch := first | omega | decide) only [go_sem, f0]; rfl) (by simp) rfl] | skip
    exact hK _
  apply aops_step0 rfl
  · intro K hK
    simp (disch := first | omega | decide) only [go_sem, f0, act_store_t ti47, List.map]
    first | rw [mwp_store_g1 (by first | (rw [hG]; rfl) | rfl) (by simp) rfl rfl] | rw [mwp_store_c (by simp (disch := first | omega | decide) only [go_sem, f0]; rfl) (by rfl) (by rfl) (by rfl) (by simp)] | rw [mwp_aStore_map (by simp (disch := first | omega | decide) only [go_sem, f0]; rfl) (by first | omega | (simp; omega)) (fun _ => rfl) rfl rfl (fun _ => rfl)] | skip
    try simp only [setAt, cellsL, cellsOf_agg, cellsOf_base, List.map_cons, List.map_nil, List.set_cons_zero, List.set_cons_succ, Nat.reduceAdd, Nat.zero_add, hG]
    exact hK _
  refine aops_nil ?_
  refine AW.ret ?_
  refine ⟨.inr rfl, ?_⟩
  refine leaves_mwp2 (rs := [.cell 2 47]) rfl ?_
  simp (config := {failIfUnchanged := false}) [giveL, srcOne, rehome, freezeN, sub, ti47, upd, opn, aLoad, loadL, giveOne, reify, reifyL, readL, readOne, Mwp, M.bind, Mem.set, setAt, cellsL, hG, f0, gone]
  all_goals first | done | omega | (simp_all; done) | (simp_all; omega) | grind

set_option maxHeartbeats 4000000 in
set_option maxRecDepth 100000 in
theorem good_lost (n : Near) : Good Try.prog 67 [(.agg [i64 (n).of, i64 (n).co, i64 (n).bo, i64 (n).ep, .b (n).he, .b (n).fu, i64 (n).ag, .b (n).go], false)] [] [(.agg [i64 (lost n).of, i64 (lost n).co, i64 (lost n).bo, i64 (lost n).ep, .b (lost n).he, .b (lost n).fu, i64 (lost n).ag, .b (lost n).go], false)] [] := by
  refine good_of_body2 8 Try.func67 rfl rfl rfl (by simp) ?_
  intro s m ha hr hv hG
  have f0 : s 0 = .v (.agg [i64 (n).of, i64 (n).co, i64 (n).bo, i64 (n).ep, .b (n).he, .b (n).fu, i64 (n).ag, .b (n).go]) := ha 0 _ rfl
  clear ha
  refine AW.seq ?_
  refine AW.region (cfg := cfg) ?_
  apply aops_step (by decide) rfl
  · intro K hK
    simp (disch := first | omega | decide) only [go_sem, f0, act_box_t ti47, List.map]
    rw [settleL_vish _ _ (by rfl)]
    simp (disch := first | omega | decide) only [go_sem, f0, cellsL, List.map, List.length_cons, List.length_nil, Nat.reduceAdd, if_true]
    exact hK _
  apply aops_step (by decide) rfl
  · intro K hK
    simp (disch := first | omega | decide) only [go_sem, f0, act_alloc_t ti47, List.map]
    exact hK _
  refine aops_nil ?_
  refine AW.seq ?_
  refine AW.region (cfg := cfg) ?_
  apply aops_step (by decide) rfl
  · intro K hK
    simp (disch := first | omega | decide) only [go_sem, f0, act_load_t ti47, List.map]
    first | rw [mwp_load_i1 (by rfl)] | rw [mwp_load_g1 (by first | (rw [hG]; rfl) | rfl) (by rfl)] | rw [mwp_load_gs (by first | (rw [hG]; rfl) | rfl) (by simp)] | rw [mwp_load_bs (by simp (disch := first | omega | decide) only [go_sem, f0]; rfl) (by simp [setAt])] | rw [mwp_load_b1 (by simp (disch := first | omega | decide) only [go_sem, f0]; rfl) (by rfl)] | rw [mwp_aLoad_map (by simp (disch := first | omega | decide) only [go_sem, f0]; rfl) (by first | omega | (simp; omega)) (fun _ => rfl)] | rw [mwp_aLoad_e1 (by simp (disch := first | omega | decide) only [go_sem, f0]; rfl) (by simp) rfl] | skip
    exact hK _
  apply aops_step (by decide) rfl
  · intro K hK
    simp (disch := first | omega | decide) only [go_sem, f0, act_call, List.map]
    apply mwp_call_r rfl rfl rfl
    · intro Q hQ
      simp (disch := first | omega | decide) only [go_sem, f0, peekL, reifyL_nil, reifyL_cons, reify_v]
      first | exact hQ | ((first | rw [peek_own (by simp (disch := first | omega | decide) only [go_sem, f0, peekL]; rfl)] | rw [mwp_reify_own (by simp (disch := first | omega | decide) only [go_sem, f0, peekL]; rfl)]); exact hQ) | ((first | rw [peek_own (by simp (disch := first | omega | decide) only [go_sem, f0, peekL]; rfl)] | rw [mwp_reify_own (by simp (disch := first | omega | decide) only [go_sem, f0, peekL]; rfl)]); simp (disch := first | omega | decide) only [go_sem, f0, peekL]; (first | rw [peek_own (by simp (disch := first | omega | decide) only [go_sem, f0, peekL]; rfl)] | rw [mwp_reify_own (by simp (disch := first | omega | decide) only [go_sem, f0, peekL]; rfl)]); exact hQ) | ((first | rw [peek_own (by simp (disch := first | omega | decide) only [go_sem, f0, peekL]; rfl)] | rw [mwp_reify_own (by simp (disch := first | omega | decide) only [go_sem, f0, peekL]; rfl)]); simp (disch := first | omega | decide) only [go_sem, f0, peekL]; exact hQ)
    · exact good_gone _
    · simp [-List.map_take, -List.map_drop, noPtrL, noPtr, noPtrL_bsl, noPtrL_map, sub]
    · simp (disch := first | omega | decide) only [go_sem, f0]
      exact hK _
  apply aops_step0 rfl
  · intro K hK
    simp (disch := first | omega | decide) only [go_sem, f0, act_store_t ti47, List.map]
    first | rw [mwp_store_g1 (by first | (rw [hG]; rfl) | rfl) (by simp) rfl rfl] | rw [mwp_store_c (by simp (disch := first | omega | decide) only [go_sem, f0]; rfl) (by rfl) (by rfl) (by rfl) (by simp)] | rw [mwp_aStore_map (by simp (disch := first | omega | decide) only [go_sem, f0]; rfl) (by first | omega | (simp; omega)) (fun _ => rfl) rfl rfl (fun _ => rfl)] | skip
    try simp only [setAt, cellsL, cellsOf_agg, cellsOf_base, List.map_cons, List.map_nil, List.set_cons_zero, List.set_cons_succ, Nat.reduceAdd, Nat.zero_add, hG]
    exact hK _
  refine aops_nil ?_
  refine AW.seq ?_
  refine AW.region (cfg := cfg) ?_
  apply aops_step (by decide) rfl
  · intro K hK
    simp (disch := first | omega | decide) only [go_sem, f0, act_fieldAddr_t fo47_4, List.map]
    first | rw [mwp_fieldAddr_b (by simp (disch := first | omega | decide) only [go_sem, f0]; rfl)] | skip
    exact hK _
  apply aops_step0 rfl
  · intro K hK
    simp (disch := first | omega | decide) only [go_sem, f0, act_store_t ti4, List.map]
    first | rw [mwp_store_g1 (by first | (rw [hG]; rfl) | rfl) (by simp) rfl rfl] | rw [mwp_store_c (by simp (disch := first | omega | decide) only [go_sem, f0]; rfl) (by rfl) (by rfl) (by rfl) (by simp)] | rw [mwp_aStore_map (by simp (disch := first | omega | decide) only [go_sem, f0]; rfl) (by first | omega | (simp; omega)) (fun _ => rfl) rfl rfl (fun _ => rfl)] | skip
    try simp only [setAt, cellsL, cellsOf_agg, cellsOf_base, List.map_cons, List.map_nil, List.set_cons_zero, List.set_cons_succ, Nat.reduceAdd, Nat.zero_add, hG]
    exact hK _
  apply aops_step (by decide) rfl
  · intro K hK
    simp (disch := first | omega | decide) only [go_sem, f0, act_fieldAddr_t fo47_6, List.map]
    first | rw [mwp_fieldAddr_b (by simp (disch := first | omega | decide) only [go_sem, f0]; rfl)] | skip
    exact hK _
  apply aops_step0 rfl
  · intro K hK
    simp (disch := first | omega | decide) only [go_sem, f0, act_store_t ti3, List.map]
    first | rw [mwp_store_g1 (by first | (rw [hG]; rfl) | rfl) (by simp) rfl rfl] | rw [mwp_store_c (by simp (disch := first | omega | decide) only [go_sem, f0]; rfl) (by rfl) (by rfl) (by rfl) (by simp)] | rw [mwp_aStore_map (by simp (disch := first | omega | decide) only [go_sem, f0]; rfl) (by first | omega | (simp; omega)) (fun _ => rfl) rfl rfl (fun _ => rfl)] | skip
    try simp only [setAt, cellsL, cellsOf_agg, cellsOf_base, List.map_cons, List.map_nil, List.set_cons_zero, List.set_cons_succ, Nat.reduceAdd, Nat.zero_add, hG]
    exact hK _
  refine aops_nil ?_
  refine AW.seq ?_
  refine AW.region (cfg := cfg) ?_
  apply aops_step (by decide) rfl
  · intro K hK
    simp (disch := first | omega | decide) only [go_sem, f0, act_load_t ti47, List.map]
    first | rw [mwp_load_i1 (by rfl)] | rw [mwp_load_g1 (by first | (rw [hG]; rfl) | rfl) (by rfl)] | rw [mwp_load_gs (by first | (rw [hG]; rfl) | rfl) (by simp)] | rw [mwp_load_bs (by simp (disch := first | omega | decide) only [go_sem, f0]; rfl) (by simp [setAt])] | rw [mwp_load_b1 (by simp (disch := first | omega | decide) only [go_sem, f0]; rfl) (by rfl)] | rw [mwp_aLoad_map (by simp (disch := first | omega | decide) only [go_sem, f0]; rfl) (by first | omega | (simp; omega)) (fun _ => rfl)] | rw [mwp_aLoad_e1 (by simp (disch := first | omega | decide) only [go_sem, f0]; rfl) (by simp) rfl] | skip
    exact hK _
  apply aops_step0 rfl
  · intro K hK
    simp (disch := first | omega | decide) only [go_sem, f0, act_store_t ti47, List.map]
    first | rw [mwp_store_g1 (by first | (rw [hG]; rfl) | rfl) (by simp) rfl rfl] | rw [mwp_store_c (by simp (disch := first | omega | decide) only [go_sem, f0]; rfl) (by rfl) (by rfl) (by rfl) (by simp)] | rw [mwp_aStore_map (by simp (disch := first | omega | decide) only [go_sem, f0]; rfl) (by first | omega | (simp; omega)) (fun _ => rfl) rfl rfl (fun _ => rfl)] | skip
    try simp only [setAt, cellsL, cellsOf_agg, cellsOf_base, List.map_cons, List.map_nil, List.set_cons_zero, List.set_cons_succ, Nat.reduceAdd, Nat.zero_add, hG]
    exact hK _
  refine aops_nil ?_
  refine AW.ret ?_
  refine ⟨.inr rfl, ?_⟩
  refine leaves_mwp2 (rs := [.cell 2 47]) rfl ?_
  simp (config := {failIfUnchanged := false}) [giveL, srcOne, rehome, freezeN, sub, ti47, upd, opn, aLoad, loadL, giveOne, reify, reifyL, readL, readOne, Mwp, M.bind, Mem.set, setAt, cellsL, hG, f0, lost, gone]
  all_goals first | done | omega | (simp_all; done) | (simp_all; omega) | grind

set_option maxHeartbeats 4000000 in
set_option maxRecDepth 100000 in
theorem good_Hello (n : Near) (b : Int) (h : Bool) : Good Try.prog 27 [(.agg [i64 (n).of, i64 (n).co, i64 (n).bo, i64 (n).ep, .b (n).he, .b (n).fu, i64 (n).ag, .b (n).go], false), (i64 b, false), (.b h, false)] [] [(.agg [i64 (helloN n b h).of, i64 (helloN n b h).co, i64 (helloN n b h).bo, i64 (helloN n b h).ep, .b (helloN n b h).he, .b (helloN n b h).fu, i64 (helloN n b h).ag, .b (helloN n b h).go], false), (.b (helloD n b h), false), (.b (helloU n b h), false), (i64 (helloE n b), false)] [] := by
  refine good_of_body2 59 Try.func27 rfl rfl rfl (by simp) ?_
  intro s m ha hr hv hG
  have f0 : s 0 = .v (.agg [i64 (n).of, i64 (n).co, i64 (n).bo, i64 (n).ep, .b (n).he, .b (n).fu, i64 (n).ag, .b (n).go]) := ha 0 _ rfl
  have f1 : s 1 = .v (i64 b) := ha 1 _ rfl
  have f2 : s 2 = .v (.b h) := ha 2 _ rfl
  clear ha
  refine AW.seq ?_
  refine AW.region (cfg := cfg) ?_
  apply aops_step (by decide) rfl
  · intro K hK
    simp (disch := first | omega | decide) only [go_sem, f0, f1, f2, act_box_t ti47, List.map]
    rw [settleL_vish _ _ (by rfl)]
    simp (disch := first | omega | decide) only [go_sem, f0, f1, f2, cellsL, List.map, List.length_cons, List.length_nil, Nat.reduceAdd, if_true]
    exact hK _
  apply aops_step (by decide) rfl
  · intro K hK
    simp (disch := first | omega | decide) only [go_sem, f0, f1, f2, act_alloc_t ti47, List.map]
    exact hK _
  iterate 3 (apply aops_step (by decide) rfl; · (intro K hK; simp (disch := first | omega | decide) only [go_sem, f0, f1, f2]; exact hK _))
  refine aops_nil ?_
  refine AW.seq ?_
  refine AW.block ?_
  refine AW.seq ?_
  refine AW.region (cfg := cfg) ?_
  apply aops_step (by decide) rfl
  · intro K hK
    simp (disch := first | omega | decide) only [go_sem, f0, f1, f2, act_load_t ti47, List.map]
    first | rw [mwp_load_i1 (by rfl)] | rw [mwp_load_g1 (by first | (rw [hG]; rfl) | rfl) (by rfl)] | rw [mwp_load_gs (by first | (rw [hG]; rfl) | rfl) (by simp)] | rw [mwp_load_bs (by simp (disch := first | omega | decide) only [go_sem, f0, f1, f2]; rfl) (by simp [setAt])] | rw [mwp_load_b1 (by simp (disch := first | omega | decide) only [go_sem, f0, f1, f2]; rfl) (by rfl)] | rw [mwp_aLoad_map (by simp (disch := first | omega | decide) only [go_sem, f0, f1, f2]; rfl) (by first | omega | (simp; omega)) (fun _ => rfl)] | rw [mwp_aLoad_e1 (by simp (disch := first | omega | decide) only [go_sem, f0, f1, f2]; rfl) (by simp) rfl] | skip
    exact hK _
  apply aops_step (by decide) rfl
  · intro K hK
    simp (disch := first | omega | decide) only [go_sem, f0, f1, f2, act_call, List.map]
    apply mwp_call_s rfl rfl rfl
    · intro Q hQ
      simp (disch := first | omega | decide) only [go_sem, f0, f1, f2, peekL, reifyL_nil, reifyL_cons, reify_v]
      first | exact hQ | ((first | rw [peek_own (by simp (disch := first | omega | decide) only [go_sem, f0, f1, f2, peekL]; rfl)] | rw [mwp_reify_own (by simp (disch := first | omega | decide) only [go_sem, f0, f1, f2, peekL]; rfl)]); exact hQ) | ((first | rw [peek_own (by simp (disch := first | omega | decide) only [go_sem, f0, f1, f2, peekL]; rfl)] | rw [mwp_reify_own (by simp (disch := first | omega | decide) only [go_sem, f0, f1, f2, peekL]; rfl)]); simp (disch := first | omega | decide) only [go_sem, f0, f1, f2, peekL]; (first | rw [peek_own (by simp (disch := first | omega | decide) only [go_sem, f0, f1, f2, peekL]; rfl)] | rw [mwp_reify_own (by simp (disch := first | omega | decide) only [go_sem, f0, f1, f2, peekL]; rfl)]); exact hQ) | ((first | rw [peek_own (by simp (disch := first | omega | decide) only [go_sem, f0, f1, f2, peekL]; rfl)] | rw [mwp_reify_own (by simp (disch := first | omega | decide) only [go_sem, f0, f1, f2, peekL]; rfl)]); simp (disch := first | omega | decide) only [go_sem, f0, f1, f2, peekL]; exact hQ)
    · exact good_Check _
    · simp [-List.map_take, -List.map_drop, noPtrL, noPtr, noPtrL_bsl, noPtrL_map, sub]
    · rfl
    · exact hK _
  iterate 2 (apply aops_step (by decide) rfl; · (intro K hK; simp (disch := first | omega | decide) only [go_sem, f0, f1, f2]; exact hK _))
  apply aops_merge' (by decide) (by first | exact want_of (d := 14) rfl (by simp (disch := first | omega | decide) only [go_sem, f0, f1, f2, opn_cond]; rfl) | exact want_of_cond (d := 14) rfl (by simp (disch := first | omega | decide) only [go_sem, f0, f1, f2, opn_cond]; rfl))
  · intro hc K hK
    have hc2 := hc
    simp only [beq_iff_eq, decide_eq_true_eq, decide_eq_false_iff_not, Bool.or_eq_true, Bool.and_eq_true, Bool.or_eq_false_iff, Bool.and_eq_false_iff] at hc2
    simp (disch := first | omega | decide) only [go_sem, f0, f1, f2, opn_cond, hc, if_true]
    exact hK _
  apply aops_merge' (by decide) (by first | exact want_of (d := 14) rfl (by simp (disch := first | omega | decide) only [go_sem, f0, f1, f2, opn_cond]; rfl) | exact want_of_cond (d := 14) rfl (by simp (disch := first | omega | decide) only [go_sem, f0, f1, f2, opn_cond]; rfl))
  · intro hc K hK
    have hc2 := hc
    simp only [beq_iff_eq, decide_eq_true_eq, decide_eq_false_iff_not, Bool.or_eq_true, Bool.and_eq_true, Bool.or_eq_false_iff, Bool.and_eq_false_iff] at hc2
    simp (disch := first | omega | decide) only [go_sem, f0, f1, f2, opn_cond, hc, if_true, act_call, List.map]
    apply mwp_call_s rfl rfl rfl
    · intro Q hQ
      simp (disch := first | omega | decide) only [go_sem, f0, f1, f2, opn_cond, hc, if_true, peekL, reifyL_nil, reifyL_cons, reify_v]
      first | exact hQ | ((first | rw [peek_own (by simp (disch := first | omega | decide) only [go_sem, f0, f1, f2, peekL]; rfl)] | rw [mwp_reify_own (by simp (disch := first | omega | decide) only [go_sem, f0, f1, f2, peekL]; rfl)]); exact hQ) | ((first | rw [peek_own (by simp (disch := first | omega | decide) only [go_sem, f0, f1, f2, peekL]; rfl)] | rw [mwp_reify_own (by simp (disch := first | omega | decide) only [go_sem, f0, f1, f2, peekL]; rfl)]); simp (disch := first | omega | decide) only [go_sem, f0, f1, f2, peekL]; (first | rw [peek_own (by simp (disch := first | omega | decide) only [go_sem, f0, f1, f2, peekL]; rfl)] | rw [mwp_reify_own (by simp (disch := first | omega | decide) only [go_sem, f0, f1, f2, peekL]; rfl)]); exact hQ) | ((first | rw [peek_own (by simp (disch := first | omega | decide) only [go_sem, f0, f1, f2, peekL]; rfl)] | rw [mwp_reify_own (by simp (disch := first | omega | decide) only [go_sem, f0, f1, f2, peekL]; rfl)]); simp (disch := first | omega | decide) only [go_sem, f0, f1, f2, peekL]; exact hQ)
    · exact good_within _ _ _
    · simp [-List.map_take, -List.map_drop, noPtrL, noPtr, noPtrL_bsl, noPtrL_map, sub]
    · rfl
    · exact hK _
  apply aops_merge' (by decide) (by first | exact want_of (d := 14) rfl (by simp (disch := first | omega | decide) only [go_sem, f0, f1, f2, opn_cond]; rfl) | exact want_of_cond (d := 14) rfl (by simp (disch := first | omega | decide) only [go_sem, f0, f1, f2, opn_cond]; rfl))
  · intro hc K hK
    have hc2 := hc
    simp only [beq_iff_eq, decide_eq_true_eq, decide_eq_false_iff_not, Bool.or_eq_true, Bool.and_eq_true, Bool.or_eq_false_iff, Bool.and_eq_false_iff] at hc2
    simp (disch := first | omega | decide) only [go_sem, f0, f1, f2, opn_cond, hc, if_true]
    exact hK _
  iterate 2 (apply aops_step (by decide) rfl; · (intro K hK; simp (disch := first | omega | decide) only [go_sem, f0, f1, f2]; exact hK _))
  refine aops_nil ?_
  apply AW.cond
  · simp (disch := first | omega | decide) only [go_sem, f0, f1, f2]; rfl
  case ht =>
    intro hb
    try simp only [Bool.or_eq_true, Bool.and_eq_true, Bool.or_eq_false_iff, Bool.and_eq_false_iff, decide_eq_true_eq, decide_eq_false_iff_not] at hb
    have hbt10 := hb
    refine AW.seq ?_
    refine AW.region (cfg := cfg) ?_
    apply aops_step (by decide) rfl
    · intro K hK
      simp (disch := first | omega | decide) only [go_sem, f0, f1, f2, act_build_t ti47 pl47, List.map]
      simp [-List.map_take, -List.map_drop, fillL, okOne, cellishAV, Value.oneCell', cellsL, cellsOf, setAt, M.bind, Mwp]
      exact hK _
    apply aops_step0 rfl
    · intro K hK
      simp (disch := first | omega | decide) only [go_sem, f0, f1, f2, act_store_t ti47, List.map]
      first | rw [mwp_store_g1 (by first | (rw [hG]; rfl) | rfl) (by simp) rfl rfl] | rw [mwp_store_c (by simp (disch := first | omega | decide) only [go_sem, f0, f1, f2]; rfl) (by rfl) (by rfl) (by rfl) (by simp)] | rw [mwp_aStore_map (by simp (disch := first | omega | decide) only [go_sem, f0, f1, f2]; rfl) (by first | omega | (simp; omega)) (fun _ => rfl) rfl rfl (fun _ => rfl)] | skip
      try simp only [setAt, cellsL, cellsOf_agg, cellsOf_base, List.map_cons, List.map_nil, List.set_cons_zero, List.set_cons_succ, Nat.reduceAdd, Nat.zero_add, hG]
      exact hK _
    iterate 3 (apply aops_step (by decide) rfl; · (intro K hK; simp (disch := first | omega | decide) only [go_sem, f0, f1, f2]; exact hK _))
    refine aops_nil ?_
    refine AW.ret ?_
    refine ⟨.inr rfl, ?_⟩
    refine leaves_mwp2 (rs := [.cell 6 47, .tmp 7, .tmp 8, .tmp 9]) rfl ?_
    simp (config := {failIfUnchanged := false}) [giveL, srcOne, rehome, freezeN, sub, ti47, upd, opn, aLoad, loadL, giveOne, reify, reifyL, readL, readOne, Mwp, M.bind, Mem.set, setAt, cellsL, hG, f0, f1, f2]
    clear hr hv hG f0
    obtain ⟨of, co, bo, ep, he, fu, ag, go⟩ := n
    all_goals (cases he <;> cases fu <;> cases go <;> cases h <;> simp_all [helloN, helloD, helloU, helloE, hBad, hStay, h2, hUp, h1, hDown, zn, gone, lost, rHelloN, rHelloD, rHelloU, rStay, rKeep, tickN, tickD, costN, costD, costE, costBad, rTickN, rTickD, rCostN, rCostD, chk, bad, okA, wi] <;> first | done | omega | (rw [Bool.eq_iff_iff]; simp; omega) | (split <;> simp_all <;> omega) | grind | trace_state)
  case hf =>
    intro hb
    try simp only [Bool.or_eq_true, Bool.and_eq_true, Bool.or_eq_false_iff, Bool.and_eq_false_iff, decide_eq_true_eq, decide_eq_false_iff_not] at hb
    have hbt10 := hb
    refine AW.seq ?_
    refine AW.region (cfg := cfg) ?_
    iterate 1 (apply aops_step (by decide) rfl; · (intro K hK; simp (disch := first | omega | decide) only [go_sem, f0, f1, f2]; exact hK _))
    apply aops_step (by decide) rfl
    · intro K hK
      simp (disch := first | omega | decide) only [go_sem, f0, f1, f2, act_fieldAddr_t fo47_2, List.map]
      first | rw [mwp_fieldAddr_b (by simp (disch := first | omega | decide) only [go_sem, f0, f1, f2]; rfl)] | skip
      exact hK _
    apply aops_step (by decide) rfl
    · intro K hK
      simp (disch := first | omega | decide) only [go_sem, f0, f1, f2, act_load_t ti3, List.map]
      first | rw [mwp_load_i1 (by rfl)] | rw [mwp_load_g1 (by first | (rw [hG]; rfl) | rfl) (by rfl)] | rw [mwp_load_gs (by first | (rw [hG]; rfl) | rfl) (by simp)] | rw [mwp_load_bs (by simp (disch := first | omega | decide) only [go_sem, f0, f1, f2]; rfl) (by simp [setAt])] | rw [mwp_load_b1 (by simp (disch := first | omega | decide) only [go_sem, f0, f1, f2]; rfl) (by rfl)] | rw [mwp_aLoad_map (by simp (disch := first | omega | decide) only [go_sem, f0, f1, f2]; rfl) (by first | omega | (simp; omega)) (fun _ => rfl)] | rw [mwp_aLoad_e1 (by simp (disch := first | omega | decide) only [go_sem, f0, f1, f2]; rfl) (by simp) rfl] | skip
      exact hK _
    iterate 2 (apply aops_step (by decide) rfl; · (intro K hK; simp (disch := first | omega | decide) only [go_sem, f0, f1, f2]; exact hK _))
    apply aops_merge' (by decide) (by first | exact want_of (d := 25) rfl (by simp (disch := first | omega | decide) only [go_sem, f0, f1, f2, opn_cond]; rfl) | exact want_of_cond (d := 25) rfl (by simp (disch := first | omega | decide) only [go_sem, f0, f1, f2, opn_cond]; rfl))
    · intro hc K hK
      have hc2 := hc
      simp only [beq_iff_eq, decide_eq_true_eq, decide_eq_false_iff_not, Bool.or_eq_true, Bool.and_eq_true, Bool.or_eq_false_iff, Bool.and_eq_false_iff] at hc2
      simp (disch := first | omega | decide) only [go_sem, f0, f1, f2, opn_cond, hc, if_true, act_fieldAddr_t fo47_1]
      first | rw [mwp_fieldAddr_b (by simp (disch := first | omega | decide) only [go_sem, f0, f1, f2, opn_cond, hc, if_true]; rfl)] | skip
      exact hK _
    apply aops_merge' (by decide) (by first | exact want_of (d := 25) rfl (by simp (disch := first | omega | decide) only [go_sem, f0, f1, f2, opn_cond]; rfl) | exact want_of_cond (d := 25) rfl (by simp (disch := first | omega | decide) only [go_sem, f0, f1, f2, opn_cond]; rfl))
    · intro hc K hK
      have hc2 := hc
      simp only [beq_iff_eq, decide_eq_true_eq, decide_eq_false_iff_not, Bool.or_eq_true, Bool.and_eq_true, Bool.or_eq_false_iff, Bool.and_eq_false_iff] at hc2
      simp (disch := first | omega | decide) only [go_sem, f0, f1, f2, opn_cond, hc, if_true, act_load_t ti3]
      first | rw [mwp_load_i1 (by rfl)] | rw [mwp_load_g1 (by first | (rw [hG]; rfl) | rfl) (by rfl)] | rw [mwp_load_gs (by first | (rw [hG]; rfl) | rfl) (by simp)] | rw [mwp_load_bs (by simp (disch := first | omega | decide) only [go_sem, f0, f1, f2, opn_cond, hc, if_true]; rfl) (by simp [setAt])] | rw [mwp_load_b1 (by simp (disch := first | omega | decide) only [go_sem, f0, f1, f2, opn_cond, hc, if_true]; rfl) (by rfl)] | rw [mwp_aLoad_map (by simp (disch := first | omega | decide) only [go_sem, f0, f1, f2, opn_cond, hc, if_true]; rfl) (by first | omega | (simp; omega)) (fun _ => rfl)] | rw [mwp_aLoad_e1 (by simp (disch := first | omega | decide) only [go_sem, f0, f1, f2, opn_cond, hc, if_true]; rfl) (by simp) rfl] | skip
      exact hK _
    apply aops_merge' (by decide) (by first | exact want_of (d := 25) rfl (by simp (disch := first | omega | decide) only [go_sem, f0, f1, f2, opn_cond]; rfl) | exact want_of_cond (d := 25) rfl (by simp (disch := first | omega | decide) only [go_sem, f0, f1, f2, opn_cond]; rfl))
    · intro hc K hK
      have hc2 := hc
      simp only [beq_iff_eq, decide_eq_true_eq, decide_eq_false_iff_not, Bool.or_eq_true, Bool.and_eq_true, Bool.or_eq_false_iff, Bool.and_eq_false_iff] at hc2
      simp (disch := first | omega | decide) only [go_sem, f0, f1, f2, opn_cond, hc, if_true]
      exact hK _
    iterate 2 (apply aops_step (by decide) rfl; · (intro K hK; simp (disch := first | omega | decide) only [go_sem, f0, f1, f2]; exact hK _))
    refine aops_nil ?_
    apply AW.cond
    · simp (disch := first | omega | decide) only [go_sem, f0, f1, f2]; rfl
    case ht =>
      intro hb
      try simp only [Bool.or_eq_true, Bool.and_eq_true, Bool.or_eq_false_iff, Bool.and_eq_false_iff, decide_eq_true_eq, decide_eq_false_iff_not] at hb
      have hbt20 := hb
      refine AW.seq ?_
      refine AW.region (cfg := cfg) ?_
      apply aops_step (by decide) rfl
      · intro K hK
        simp (disch := first | omega | decide) only [go_sem, f0, f1, f2, act_load_t ti47, List.map]
        first | rw [mwp_load_i1 (by rfl)] | rw [mwp_load_g1 (by first | (rw [hG]; rfl) | rfl) (by rfl)] | rw [mwp_load_gs (by first | (rw [hG]; rfl) | rfl) (by simp)] | rw [mwp_load_bs (by simp (disch := first | omega | decide) only [go_sem, f0, f1, f2]; rfl) (by simp [setAt])] | rw [mwp_load_b1 (by simp (disch := first | omega | decide) only [go_sem, f0, f1, f2]; rfl) (by rfl)] | rw [mwp_aLoad_map (by simp (disch := first | omega | decide) only [go_sem, f0, f1, f2]; rfl) (by first | omega | (simp; omega)) (fun _ => rfl)] | rw [mwp_aLoad_e1 (by simp (disch := first | omega | decide) only [go_sem, f0, f1, f2]; rfl) (by simp) rfl] | skip
        exact hK _
      apply aops_step0 rfl
      · intro K hK
        simp (disch := first | omega | decide) only [go_sem, f0, f1, f2, act_store_t ti47, List.map]
        first | rw [mwp_store_g1 (by first | (rw [hG]; rfl) | rfl) (by simp) rfl rfl] | rw [mwp_store_c (by simp (disch := first | omega | decide) only [go_sem, f0, f1, f2]; rfl) (by rfl) (by rfl) (by rfl) (by simp)] | rw [mwp_aStore_map (by simp (disch := first | omega | decide) only [go_sem, f0, f1, f2]; rfl) (by first | omega | (simp; omega)) (fun _ => rfl) rfl rfl (fun _ => rfl)] | skip
        try simp only [setAt, cellsL, cellsOf_agg, cellsOf_base, List.map_cons, List.map_nil, List.set_cons_zero, List.set_cons_succ, Nat.reduceAdd, Nat.zero_add, hG]
        exact hK _
      iterate 3 (apply aops_step (by decide) rfl; · (intro K hK; simp (disch := first | omega | decide) only [go_sem, f0, f1, f2]; exact hK _))
      refine aops_nil ?_
      refine AW.ret ?_
      refine ⟨.inr rfl, ?_⟩
      refine leaves_mwp2 (rs := [.cell 6 47, .tmp 7, .tmp 8, .tmp 9]) rfl ?_
      simp (config := {failIfUnchanged := false}) [giveL, srcOne, rehome, freezeN, sub, ti47, upd, opn, aLoad, loadL, giveOne, reify, reifyL, readL, readOne, Mwp, M.bind, Mem.set, setAt, cellsL, hG, f0, f1, f2]
      clear hr hv hG f0
      obtain ⟨of, co, bo, ep, he, fu, ag, go⟩ := n
      all_goals (cases he <;> cases fu <;> cases go <;> cases h <;> simp_all [helloN, helloD, helloU, helloE, hBad, hStay, h2, hUp, h1, hDown, zn, gone, lost, rHelloN, rHelloD, rHelloU, rStay, rKeep, tickN, tickD, costN, costD, costE, costBad, rTickN, rTickD, rCostN, rCostD, chk, bad, okA, wi] <;> first | done | omega | (rw [Bool.eq_iff_iff]; simp; omega) | (split <;> simp_all <;> omega) | grind | trace_state)
    case hf =>
      intro hb
      try simp only [Bool.or_eq_true, Bool.and_eq_true, Bool.or_eq_false_iff, Bool.and_eq_false_iff, decide_eq_true_eq, decide_eq_false_iff_not] at hb
      have hbt20 := hb
      refine AW.skip ?_
      refine AW.seq ?_
      refine AW.seq ?_
      refine AW.region (cfg := cfg) ?_
      apply aops_step (by decide) rfl
      · intro K hK
        simp (disch := first | omega | decide) only [go_sem, f0, f1, f2, act_fieldAddr_t fo47_5, List.map]
        first | rw [mwp_fieldAddr_b (by simp (disch := first | omega | decide) only [go_sem, f0, f1, f2]; rfl)] | skip
        exact hK _
      apply aops_step (by decide) rfl
      · intro K hK
        simp (disch := first | omega | decide) only [go_sem, f0, f1, f2, act_load_t ti4, List.map]
        first | rw [mwp_load_i1 (by rfl)] | rw [mwp_load_g1 (by first | (rw [hG]; rfl) | rfl) (by rfl)] | rw [mwp_load_gs (by first | (rw [hG]; rfl) | rfl) (by simp)] | rw [mwp_load_bs (by simp (disch := first | omega | decide) only [go_sem, f0, f1, f2]; rfl) (by simp [setAt])] | rw [mwp_load_b1 (by simp (disch := first | omega | decide) only [go_sem, f0, f1, f2]; rfl) (by rfl)] | rw [mwp_aLoad_map (by simp (disch := first | omega | decide) only [go_sem, f0, f1, f2]; rfl) (by first | omega | (simp; omega)) (fun _ => rfl)] | rw [mwp_aLoad_e1 (by simp (disch := first | omega | decide) only [go_sem, f0, f1, f2]; rfl) (by simp) rfl] | skip
        exact hK _
      iterate 1 (apply aops_step (by decide) rfl; · (intro K hK; simp (disch := first | omega | decide) only [go_sem, f0, f1, f2]; exact hK _))
      apply aops_merge' (by decide) (by first | exact want_of (d := 33) rfl (by simp (disch := first | omega | decide) only [go_sem, f0, f1, f2, opn_cond]; rfl) | exact want_of_cond (d := 33) rfl (by simp (disch := first | omega | decide) only [go_sem, f0, f1, f2, opn_cond]; rfl))
      · intro hc K hK
        have hc2 := hc
        simp only [beq_iff_eq, decide_eq_true_eq, decide_eq_false_iff_not, Bool.or_eq_true, Bool.and_eq_true, Bool.or_eq_false_iff, Bool.and_eq_false_iff] at hc2
        simp (disch := first | omega | decide) only [go_sem, f0, f1, f2, opn_cond, hc, if_true]
        exact hK _
      apply aops_merge' (by decide) (by first | exact want_of (d := 33) rfl (by simp (disch := first | omega | decide) only [go_sem, f0, f1, f2, opn_cond]; rfl) | exact want_of_cond (d := 33) rfl (by simp (disch := first | omega | decide) only [go_sem, f0, f1, f2, opn_cond]; rfl))
      · intro hc K hK
        have hc2 := hc
        simp only [beq_iff_eq, decide_eq_true_eq, decide_eq_false_iff_not, Bool.or_eq_true, Bool.and_eq_true, Bool.or_eq_false_iff, Bool.and_eq_false_iff] at hc2
        simp (disch := first | omega | decide) only [go_sem, f0, f1, f2, opn_cond, hc, if_true, act_fieldAddr_t fo47_2]
        first | rw [mwp_fieldAddr_b (by simp (disch := first | omega | decide) only [go_sem, f0, f1, f2, opn_cond, hc, if_true]; rfl)] | skip
        exact hK _
      apply aops_merge' (by decide) (by first | exact want_of (d := 33) rfl (by simp (disch := first | omega | decide) only [go_sem, f0, f1, f2, opn_cond]; rfl) | exact want_of_cond (d := 33) rfl (by simp (disch := first | omega | decide) only [go_sem, f0, f1, f2, opn_cond]; rfl))
      · intro hc K hK
        have hc2 := hc
        simp only [beq_iff_eq, decide_eq_true_eq, decide_eq_false_iff_not, Bool.or_eq_true, Bool.and_eq_true, Bool.or_eq_false_iff, Bool.and_eq_false_iff] at hc2
        simp (disch := first | omega | decide) only [go_sem, f0, f1, f2, opn_cond, hc, if_true, act_load_t ti3]
        first | rw [mwp_load_i1 (by rfl)] | rw [mwp_load_g1 (by first | (rw [hG]; rfl) | rfl) (by rfl)] | rw [mwp_load_gs (by first | (rw [hG]; rfl) | rfl) (by simp)] | rw [mwp_load_bs (by simp (disch := first | omega | decide) only [go_sem, f0, f1, f2, opn_cond, hc, if_true]; rfl) (by simp [setAt])] | rw [mwp_load_b1 (by simp (disch := first | omega | decide) only [go_sem, f0, f1, f2, opn_cond, hc, if_true]; rfl) (by rfl)] | rw [mwp_aLoad_map (by simp (disch := first | omega | decide) only [go_sem, f0, f1, f2, opn_cond, hc, if_true]; rfl) (by first | omega | (simp; omega)) (fun _ => rfl)] | rw [mwp_aLoad_e1 (by simp (disch := first | omega | decide) only [go_sem, f0, f1, f2, opn_cond, hc, if_true]; rfl) (by simp) rfl] | skip
        exact hK _
      apply aops_merge' (by decide) (by first | exact want_of (d := 33) rfl (by simp (disch := first | omega | decide) only [go_sem, f0, f1, f2, opn_cond]; rfl) | exact want_of_cond (d := 33) rfl (by simp (disch := first | omega | decide) only [go_sem, f0, f1, f2, opn_cond]; rfl))
      · intro hc K hK
        have hc2 := hc
        simp only [beq_iff_eq, decide_eq_true_eq, decide_eq_false_iff_not, Bool.or_eq_true, Bool.and_eq_true, Bool.or_eq_false_iff, Bool.and_eq_false_iff] at hc2
        simp (disch := first | omega | decide) only [go_sem, f0, f1, f2, opn_cond, hc, if_true]
        exact hK _
      apply aops_merge' (by decide) (by first | exact want_of (d := 33) rfl (by simp (disch := first | omega | decide) only [go_sem, f0, f1, f2, opn_cond]; rfl) | exact want_of_cond (d := 33) rfl (by simp (disch := first | omega | decide) only [go_sem, f0, f1, f2, opn_cond]; rfl))
      · intro hc K hK
        have hc2 := hc
        simp only [beq_iff_eq, decide_eq_true_eq, decide_eq_false_iff_not, Bool.or_eq_true, Bool.and_eq_true, Bool.or_eq_false_iff, Bool.and_eq_false_iff] at hc2
        simp (disch := first | omega | decide) only [go_sem, f0, f1, f2, opn_cond, hc, if_true]
        exact hK _
      apply aops_merge' (by decide) (by first | exact want_of (d := 38) rfl (by simp (disch := first | omega | decide) only [go_sem, f0, f1, f2, opn_cond]; rfl) | exact want_of_cond (d := 38) rfl (by simp (disch := first | omega | decide) only [go_sem, f0, f1, f2, opn_cond]; rfl))
      · intro hc K hK
        have hc2 := hc
        simp only [beq_iff_eq, decide_eq_true_eq, decide_eq_false_iff_not, Bool.or_eq_true, Bool.and_eq_true, Bool.or_eq_false_iff, Bool.and_eq_false_iff] at hc2
        simp (disch := first | omega | decide) only [go_sem, f0, f1, f2, opn_cond, hc, if_true]
        exact hK _
      apply aops_merge' (by decide) (by first | exact want_of (d := 38) rfl (by simp (disch := first | omega | decide) only [go_sem, f0, f1, f2, opn_cond]; rfl) | exact want_of_cond (d := 38) rfl (by simp (disch := first | omega | decide) only [go_sem, f0, f1, f2, opn_cond]; rfl))
      · intro hc K hK
        have hc2 := hc
        simp only [beq_iff_eq, decide_eq_true_eq, decide_eq_false_iff_not, Bool.or_eq_true, Bool.and_eq_true, Bool.or_eq_false_iff, Bool.and_eq_false_iff] at hc2
        simp (disch := first | omega | decide) only [go_sem, f0, f1, f2, opn_cond, hc, if_true]
        exact hK _
      apply aops_merge' (by decide) (by first | exact want_of (d := 33) rfl (by simp (disch := first | omega | decide) only [go_sem, f0, f1, f2, opn_cond]; rfl) | exact want_of_cond (d := 33) rfl (by simp (disch := first | omega | decide) only [go_sem, f0, f1, f2, opn_cond]; rfl))
      · intro hc K hK
        have hc2 := hc
        simp only [beq_iff_eq, decide_eq_true_eq, decide_eq_false_iff_not, Bool.or_eq_true, Bool.and_eq_true, Bool.or_eq_false_iff, Bool.and_eq_false_iff] at hc2
        simp (disch := first | omega | decide) only [go_sem, f0, f1, f2, opn_cond, hc, if_true]
        exact hK _
      iterate 1 (apply aops_step (by decide) rfl; · (intro K hK; simp (disch := first | omega | decide) only [go_sem, f0, f1, f2]; exact hK _))
      refine aops_nil ?_
      apply AW.cond
      · simp (disch := first | omega | decide) only [go_sem, f0, f1, f2]; rfl
      case ht =>
        intro hb
        try simp only [Bool.or_eq_true, Bool.and_eq_true, Bool.or_eq_false_iff, Bool.and_eq_false_iff, decide_eq_true_eq, decide_eq_false_iff_not] at hb
        have hbt42 := hb
        refine AW.region (cfg := cfg) ?_
        apply aops_step (by decide) rfl
        · intro K hK
          simp (disch := first | omega | decide) only [go_sem, f0, f1, f2, act_load_t ti47, List.map]
          first | rw [mwp_load_i1 (by rfl)] | rw [mwp_load_g1 (by first | (rw [hG]; rfl) | rfl) (by rfl)] | rw [mwp_load_gs (by first | (rw [hG]; rfl) | rfl) (by simp)] | rw [mwp_load_bs (by simp (disch := first | omega | decide) only [go_sem, f0, f1, f2]; rfl) (by simp [setAt])] | rw [mwp_load_b1 (by simp (disch := first | omega | decide) only [go_sem, f0, f1, f2]; rfl) (by rfl)] | rw [mwp_aLoad_map (by simp (disch := first | omega | decide) only [go_sem, f0, f1, f2]; rfl) (by first | omega | (simp; omega)) (fun _ => rfl)] | rw [mwp_aLoad_e1 (by simp (disch := first | omega | decide) only [go_sem, f0, f1, f2]; rfl) (by simp) rfl] | skip
          exact hK _
        apply aops_step (by decide) rfl
        · intro K hK
          simp (disch := first | omega | decide) only [go_sem, f0, f1, f2, act_call, List.map]
          apply mwp_call_r rfl rfl rfl
          · intro Q hQ
            simp (disch := first | omega | decide) only [go_sem, f0, f1, f2, peekL, reifyL_nil, reifyL_cons, reify_v]
            first | exact hQ | ((first | rw [peek_own (by simp (disch := first | omega | decide) only [go_sem, f0, f1, f2, peekL]; rfl)] | rw [mwp_reify_own (by simp (disch := first | omega | decide) only [go_sem, f0, f1, f2, peekL]; rfl)]); exact hQ) | ((first | rw [peek_own (by simp (disch := first | omega | decide) only [go_sem, f0, f1, f2, peekL]; rfl)] | rw [mwp_reify_own (by simp (disch := first | omega | decide) only [go_sem, f0, f1, f2, peekL]; rfl)]); simp (disch := first | omega | decide) only [go_sem, f0, f1, f2, peekL]; (first | rw [peek_own (by simp (disch := first | omega | decide) only [go_sem, f0, f1, f2, peekL]; rfl)] | rw [mwp_reify_own (by simp (disch := first | omega | decide) only [go_sem, f0, f1, f2, peekL]; rfl)]); exact hQ) | ((first | rw [peek_own (by simp (disch := first | omega | decide) only [go_sem, f0, f1, f2, peekL]; rfl)] | rw [mwp_reify_own (by simp (disch := first | omega | decide) only [go_sem, f0, f1, f2, peekL]; rfl)]); simp (disch := first | omega | decide) only [go_sem, f0, f1, f2, peekL]; exact hQ)
          · exact good_gone _
          · simp [-List.map_take, -List.map_drop, noPtrL, noPtr, noPtrL_bsl, noPtrL_map, sub]
          · simp (disch := first | omega | decide) only [go_sem, f0, f1, f2]
            exact hK _
        apply aops_step0 rfl
        · intro K hK
          simp (disch := first | omega | decide) only [go_sem, f0, f1, f2, act_store_t ti47, List.map]
          first | rw [mwp_store_g1 (by first | (rw [hG]; rfl) | rfl) (by simp) rfl rfl] | rw [mwp_store_c (by simp (disch := first | omega | decide) only [go_sem, f0, f1, f2]; rfl) (by rfl) (by rfl) (by rfl) (by simp)] | rw [mwp_aStore_map (by simp (disch := first | omega | decide) only [go_sem, f0, f1, f2]; rfl) (by first | omega | (simp; omega)) (fun _ => rfl) rfl rfl (fun _ => rfl)] | skip
          try simp only [setAt, cellsL, cellsOf_agg, cellsOf_base, List.map_cons, List.map_nil, List.set_cons_zero, List.set_cons_succ, Nat.reduceAdd, Nat.zero_add, hG]
          exact hK _
        iterate 1 (apply aops_step (by decide) rfl; · (intro K hK; simp (disch := first | omega | decide) only [go_sem, f0, f1, f2]; exact hK _))
        refine aops_nil ?_
        refine AW.seq ?_
        refine AW.region (cfg := cfg) ?_
        iterate 1 (apply aops_step (by decide) rfl; · (intro K hK; simp (disch := first | omega | decide) only [go_sem, f0, f1, f2]; exact hK _))
        apply aops_step (by decide) rfl
        · intro K hK
          simp (disch := first | omega | decide) only [go_sem, f0, f1, f2, act_fieldAddr_t fo47_2, List.map]
          first | rw [mwp_fieldAddr_b (by simp (disch := first | omega | decide) only [go_sem, f0, f1, f2]; rfl)] | skip
          exact hK _
        apply aops_step0 rfl
        · intro K hK
          simp (disch := first | omega | decide) only [go_sem, f0, f1, f2, act_store_t ti3, List.map]
          first | rw [mwp_store_g1 (by first | (rw [hG]; rfl) | rfl) (by simp) rfl rfl] | rw [mwp_store_c (by simp (disch := first | omega | decide) only [go_sem, f0, f1, f2]; rfl) (by rfl) (by rfl) (by rfl) (by simp)] | rw [mwp_aStore_map (by simp (disch := first | omega | decide) only [go_sem, f0, f1, f2]; rfl) (by first | omega | (simp; omega)) (fun _ => rfl) rfl rfl (fun _ => rfl)] | skip
          try simp only [setAt, cellsL, cellsOf_agg, cellsOf_base, List.map_cons, List.map_nil, List.set_cons_zero, List.set_cons_succ, Nat.reduceAdd, Nat.zero_add, hG]
          exact hK _
        apply aops_step (by decide) rfl
        · intro K hK
          simp (disch := first | omega | decide) only [go_sem, f0, f1, f2, act_fieldAddr_t fo47_4, List.map]
          first | rw [mwp_fieldAddr_b (by simp (disch := first | omega | decide) only [go_sem, f0, f1, f2]; rfl)] | skip
          exact hK _
        apply aops_step0 rfl
        · intro K hK
          simp (disch := first | omega | decide) only [go_sem, f0, f1, f2, act_store_t ti4, List.map]
          first | rw [mwp_store_g1 (by first | (rw [hG]; rfl) | rfl) (by simp) rfl rfl] | rw [mwp_store_c (by simp (disch := first | omega | decide) only [go_sem, f0, f1, f2]; rfl) (by rfl) (by rfl) (by rfl) (by simp)] | rw [mwp_aStore_map (by simp (disch := first | omega | decide) only [go_sem, f0, f1, f2]; rfl) (by first | omega | (simp; omega)) (fun _ => rfl) rfl rfl (fun _ => rfl)] | skip
          try simp only [setAt, cellsL, cellsOf_agg, cellsOf_base, List.map_cons, List.map_nil, List.set_cons_zero, List.set_cons_succ, Nat.reduceAdd, Nat.zero_add, hG]
          exact hK _
        apply aops_step (by decide) rfl
        · intro K hK
          simp (disch := first | omega | decide) only [go_sem, f0, f1, f2, act_fieldAddr_t fo47_6, List.map]
          first | rw [mwp_fieldAddr_b (by simp (disch := first | omega | decide) only [go_sem, f0, f1, f2]; rfl)] | skip
          exact hK _
        apply aops_step0 rfl
        · intro K hK
          simp (disch := first | omega | decide) only [go_sem, f0, f1, f2, act_store_t ti3, List.map]
          first | rw [mwp_store_g1 (by first | (rw [hG]; rfl) | rfl) (by simp) rfl rfl] | rw [mwp_store_c (by simp (disch := first | omega | decide) only [go_sem, f0, f1, f2]; rfl) (by rfl) (by rfl) (by rfl) (by simp)] | rw [mwp_aStore_map (by simp (disch := first | omega | decide) only [go_sem, f0, f1, f2]; rfl) (by first | omega | (simp; omega)) (fun _ => rfl) rfl rfl (fun _ => rfl)] | skip
          try simp only [setAt, cellsL, cellsOf_agg, cellsOf_base, List.map_cons, List.map_nil, List.set_cons_zero, List.set_cons_succ, Nat.reduceAdd, Nat.zero_add, hG]
          exact hK _
        refine aops_nil ?_
        refine AW.seq ?_
        refine AW.seq ?_
        refine AW.region (cfg := cfg) ?_
        iterate 2 (apply aops_step (by decide) rfl; · (intro K hK; simp (disch := first | omega | decide) only [go_sem, f0, f1, f2]; exact hK _))
        apply aops_merge' (by decide) (by first | exact want_of (d := 50) rfl (by simp (disch := first | omega | decide) only [go_sem, f0, f1, f2, opn_cond]; rfl) | exact want_of_cond (d := 50) rfl (by simp (disch := first | omega | decide) only [go_sem, f0, f1, f2, opn_cond]; rfl))
        · intro hc K hK
          have hc2 := hc
          simp only [beq_iff_eq, decide_eq_true_eq, decide_eq_false_iff_not, Bool.or_eq_true, Bool.and_eq_true, Bool.or_eq_false_iff, Bool.and_eq_false_iff] at hc2
          simp (disch := first | omega | decide) only [go_sem, f0, f1, f2, opn_cond, hc, if_true, act_fieldAddr_t fo47_5]
          first | rw [mwp_fieldAddr_b (by simp (disch := first | omega | decide) only [go_sem, f0, f1, f2, opn_cond, hc, if_true]; rfl)] | skip
          exact hK _
        apply aops_merge' (by decide) (by first | exact want_of (d := 50) rfl (by simp (disch := first | omega | decide) only [go_sem, f0, f1, f2, opn_cond]; rfl) | exact want_of_cond (d := 50) rfl (by simp (disch := first | omega | decide) only [go_sem, f0, f1, f2, opn_cond]; rfl))
        · intro hc K hK
          have hc2 := hc
          simp only [beq_iff_eq, decide_eq_true_eq, decide_eq_false_iff_not, Bool.or_eq_true, Bool.and_eq_true, Bool.or_eq_false_iff, Bool.and_eq_false_iff] at hc2
          simp (disch := first | omega | decide) only [go_sem, f0, f1, f2, opn_cond, hc, if_true, act_load_t ti4]
          first | rw [mwp_load_i1 (by rfl)] | rw [mwp_load_g1 (by first | (rw [hG]; rfl) | rfl) (by rfl)] | rw [mwp_load_gs (by first | (rw [hG]; rfl) | rfl) (by simp)] | rw [mwp_load_bs (by simp (disch := first | omega | decide) only [go_sem, f0, f1, f2, opn_cond, hc, if_true]; rfl) (by simp [setAt])] | rw [mwp_load_b1 (by simp (disch := first | omega | decide) only [go_sem, f0, f1, f2, opn_cond, hc, if_true]; rfl) (by rfl)] | rw [mwp_aLoad_map (by simp (disch := first | omega | decide) only [go_sem, f0, f1, f2, opn_cond, hc, if_true]; rfl) (by first | omega | (simp; omega)) (fun _ => rfl)] | rw [mwp_aLoad_e1 (by simp (disch := first | omega | decide) only [go_sem, f0, f1, f2, opn_cond, hc, if_true]; rfl) (by simp) rfl] | skip
          exact hK _
        apply aops_merge' (by decide) (by first | exact want_of (d := 50) rfl (by simp (disch := first | omega | decide) only [go_sem, f0, f1, f2, opn_cond]; rfl) | exact want_of_cond (d := 50) rfl (by simp (disch := first | omega | decide) only [go_sem, f0, f1, f2, opn_cond]; rfl))
        · intro hc K hK
          have hc2 := hc
          simp only [beq_iff_eq, decide_eq_true_eq, decide_eq_false_iff_not, Bool.or_eq_true, Bool.and_eq_true, Bool.or_eq_false_iff, Bool.and_eq_false_iff] at hc2
          simp (disch := first | omega | decide) only [go_sem, f0, f1, f2, opn_cond, hc, if_true]
          exact hK _
        iterate 1 (apply aops_step (by decide) rfl; · (intro K hK; simp (disch := first | omega | decide) only [go_sem, f0, f1, f2]; exact hK _))
        refine aops_nil ?_
        apply AW.cond
        · simp (disch := first | omega | decide) only [go_sem, f0, f1, f2]; rfl
        case ht =>
          intro hb
          try simp only [Bool.or_eq_true, Bool.and_eq_true, Bool.or_eq_false_iff, Bool.and_eq_false_iff, decide_eq_true_eq, decide_eq_false_iff_not] at hb
          have hbt54 := hb
          refine AW.region (cfg := cfg) ?_
          apply aops_step (by decide) rfl
          · intro K hK
            simp (disch := first | omega | decide) only [go_sem, f0, f1, f2, act_fieldAddr_t fo47_5, List.map]
            first | rw [mwp_fieldAddr_b (by simp (disch := first | omega | decide) only [go_sem, f0, f1, f2]; rfl)] | skip
            exact hK _
          apply aops_step0 rfl
          · intro K hK
            simp (disch := first | omega | decide) only [go_sem, f0, f1, f2, act_store_t ti4, List.map]
            first | rw [mwp_store_g1 (by first | (rw [hG]; rfl) | rfl) (by simp) rfl rfl] | rw [mwp_store_c (by simp (disch := first | omega | decide) only [go_sem, f0, f1, f2]; rfl) (by rfl) (by rfl) (by rfl) (by simp)] | rw [mwp_aStore_map (by simp (disch := first | omega | decide) only [go_sem, f0, f1, f2]; rfl) (by first | omega | (simp; omega)) (fun _ => rfl) rfl rfl (fun _ => rfl)] | skip
            try simp only [setAt, cellsL, cellsOf_agg, cellsOf_base, List.map_cons, List.map_nil, List.set_cons_zero, List.set_cons_succ, Nat.reduceAdd, Nat.zero_add, hG]
            exact hK _
          iterate 1 (apply aops_step (by decide) rfl; · (intro K hK; simp (disch := first | omega | decide) only [go_sem, f0, f1, f2]; exact hK _))
          refine aops_nil ?_
          refine AW.seq ?_
          refine AW.region (cfg := cfg) ?_
          apply aops_step (by decide) rfl
          · intro K hK
            simp (disch := first | omega | decide) only [go_sem, f0, f1, f2, act_load_t ti47, List.map]
            first | rw [mwp_load_i1 (by rfl)] | rw [mwp_load_g1 (by first | (rw [hG]; rfl) | rfl) (by rfl)] | rw [mwp_load_gs (by first | (rw [hG]; rfl) | rfl) (by simp)] | rw [mwp_load_bs (by simp (disch := first | omega | decide) only [go_sem, f0, f1, f2]; rfl) (by simp [setAt])] | rw [mwp_load_b1 (by simp (disch := first | omega | decide) only [go_sem, f0, f1, f2]; rfl) (by rfl)] | rw [mwp_aLoad_map (by simp (disch := first | omega | decide) only [go_sem, f0, f1, f2]; rfl) (by first | omega | (simp; omega)) (fun _ => rfl)] | rw [mwp_aLoad_e1 (by simp (disch := first | omega | decide) only [go_sem, f0, f1, f2]; rfl) (by simp) rfl] | skip
            exact hK _
          iterate 2 (apply aops_step (by decide) rfl; · (intro K hK; simp (disch := first | omega | decide) only [go_sem, f0, f1, f2]; exact hK _))
          apply aops_step0 rfl
          · intro K hK
            simp (disch := first | omega | decide) only [go_sem, f0, f1, f2, act_store_t ti47, List.map]
            first | rw [mwp_store_g1 (by first | (rw [hG]; rfl) | rfl) (by simp) rfl rfl] | rw [mwp_store_c (by simp (disch := first | omega | decide) only [go_sem, f0, f1, f2]; rfl) (by rfl) (by rfl) (by rfl) (by simp)] | rw [mwp_aStore_map (by simp (disch := first | omega | decide) only [go_sem, f0, f1, f2]; rfl) (by first | omega | (simp; omega)) (fun _ => rfl) rfl rfl (fun _ => rfl)] | skip
            try simp only [setAt, cellsL, cellsOf_agg, cellsOf_base, List.map_cons, List.map_nil, List.set_cons_zero, List.set_cons_succ, Nat.reduceAdd, Nat.zero_add, hG]
            exact hK _
          iterate 3 (apply aops_step (by decide) rfl; · (intro K hK; simp (disch := first | omega | decide) only [go_sem, f0, f1, f2]; exact hK _))
          refine aops_nil ?_
          refine AW.ret ?_
          refine ⟨.inr rfl, ?_⟩
          refine leaves_mwp2 (rs := [.cell 6 47, .tmp 7, .tmp 8, .tmp 9]) rfl ?_
          simp (config := {failIfUnchanged := false}) [giveL, srcOne, rehome, freezeN, sub, ti47, upd, opn, aLoad, loadL, giveOne, reify, reifyL, readL, readOne, Mwp, M.bind, Mem.set, setAt, cellsL, hG, f0, f1, f2]
          clear hr hv hG f0
          obtain ⟨of, co, bo, ep, he, fu, ag, go⟩ := n
          all_goals (cases he <;> cases fu <;> cases go <;> cases h <;> simp_all [helloN, helloD, helloU, helloE, hBad, hStay, h2, hUp, h1, hDown, zn, gone, lost, rHelloN, rHelloD, rHelloU, rStay, rKeep, tickN, tickD, costN, costD, costE, costBad, rTickN, rTickD, rCostN, rCostD, chk, bad, okA, wi] <;> first | done | omega | (rw [Bool.eq_iff_iff]; simp; omega) | (split <;> simp_all <;> omega) | grind | trace_state)
        case hf =>
          intro hb
          try simp only [Bool.or_eq_true, Bool.and_eq_true, Bool.or_eq_false_iff, Bool.and_eq_false_iff, decide_eq_true_eq, decide_eq_false_iff_not] at hb
          have hbt54 := hb
          refine AW.skip ?_
          refine AW.seq ?_
          refine AW.region (cfg := cfg) ?_
          apply aops_step (by decide) rfl
          · intro K hK
            simp (disch := first | omega | decide) only [go_sem, f0, f1, f2, act_load_t ti47, List.map]
            first | rw [mwp_load_i1 (by rfl)] | rw [mwp_load_g1 (by first | (rw [hG]; rfl) | rfl) (by rfl)] | rw [mwp_load_gs (by first | (rw [hG]; rfl) | rfl) (by simp)] | rw [mwp_load_bs (by simp (disch := first | omega | decide) only [go_sem, f0, f1, f2]; rfl) (by simp [setAt])] | rw [mwp_load_b1 (by simp (disch := first | omega | decide) only [go_sem, f0, f1, f2]; rfl) (by rfl)] | rw [mwp_aLoad_map (by simp (disch := first | omega | decide) only [go_sem, f0, f1, f2]; rfl) (by first | omega | (simp; omega)) (fun _ => rfl)] | rw [mwp_aLoad_e1 (by simp (disch := first | omega | decide) only [go_sem, f0, f1, f2]; rfl) (by simp) rfl] | skip
            exact hK _
          iterate 2 (apply aops_step (by decide) rfl; · (intro K hK; simp (disch := first | omega | decide) only [go_sem, f0, f1, f2]; exact hK _))
          apply aops_step0 rfl
          · intro K hK
            simp (disch := first | omega | decide) only [go_sem, f0, f1, f2, act_store_t ti47, List.map]
            first | rw [mwp_store_g1 (by first | (rw [hG]; rfl) | rfl) (by simp) rfl rfl] | rw [mwp_store_c (by simp (disch := first | omega | decide) only [go_sem, f0, f1, f2]; rfl) (by rfl) (by rfl) (by rfl) (by simp)] | rw [mwp_aStore_map (by simp (disch := first | omega | decide) only [go_sem, f0, f1, f2]; rfl) (by first | omega | (simp; omega)) (fun _ => rfl) rfl rfl (fun _ => rfl)] | skip
            try simp only [setAt, cellsL, cellsOf_agg, cellsOf_base, List.map_cons, List.map_nil, List.set_cons_zero, List.set_cons_succ, Nat.reduceAdd, Nat.zero_add, hG]
            exact hK _
          iterate 3 (apply aops_step (by decide) rfl; · (intro K hK; simp (disch := first | omega | decide) only [go_sem, f0, f1, f2]; exact hK _))
          refine aops_nil ?_
          refine AW.ret ?_
          refine ⟨.inr rfl, ?_⟩
          refine leaves_mwp2 (rs := [.cell 6 47, .tmp 7, .tmp 8, .tmp 9]) rfl ?_
          simp (config := {failIfUnchanged := false}) [giveL, srcOne, rehome, freezeN, sub, ti47, upd, opn, aLoad, loadL, giveOne, reify, reifyL, readL, readOne, Mwp, M.bind, Mem.set, setAt, cellsL, hG, f0, f1, f2]
          clear hr hv hG f0
          obtain ⟨of, co, bo, ep, he, fu, ag, go⟩ := n
          all_goals (cases he <;> cases fu <;> cases go <;> cases h <;> simp_all [helloN, helloD, helloU, helloE, hBad, hStay, h2, hUp, h1, hDown, zn, gone, lost, rHelloN, rHelloD, rHelloU, rStay, rKeep, tickN, tickD, costN, costD, costE, costBad, rTickN, rTickD, rCostN, rCostD, chk, bad, okA, wi] <;> first | done | omega | (rw [Bool.eq_iff_iff]; simp; omega) | (split <;> simp_all <;> omega) | grind | trace_state)
      case hf =>
        intro hb
        try simp only [Bool.or_eq_true, Bool.and_eq_true, Bool.or_eq_false_iff, Bool.and_eq_false_iff, decide_eq_true_eq, decide_eq_false_iff_not] at hb
        have hbt42 := hb
        refine AW.skip ?_
        refine AW.seq ?_
        refine AW.region (cfg := cfg) ?_
        iterate 1 (apply aops_step (by decide) rfl; · (intro K hK; simp (disch := first | omega | decide) only [go_sem, f0, f1, f2]; exact hK _))
        apply aops_step (by decide) rfl
        · intro K hK
          simp (disch := first | omega | decide) only [go_sem, f0, f1, f2, act_fieldAddr_t fo47_2, List.map]
          first | rw [mwp_fieldAddr_b (by simp (disch := first | omega | decide) only [go_sem, f0, f1, f2]; rfl)] | skip
          exact hK _
        apply aops_step0 rfl
        · intro K hK
          simp (disch := first | omega | decide) only [go_sem, f0, f1, f2, act_store_t ti3, List.map]
          first | rw [mwp_store_g1 (by first | (rw [hG]; rfl) | rfl) (by simp) rfl rfl] | rw [mwp_store_c (by simp (disch := first | omega | decide) only [go_sem, f0, f1, f2]; rfl) (by rfl) (by rfl) (by rfl) (by simp)] | rw [mwp_aStore_map (by simp (disch := first | omega | decide) only [go_sem, f0, f1, f2]; rfl) (by first | omega | (simp; omega)) (fun _ => rfl) rfl rfl (fun _ => rfl)] | skip
          try simp only [setAt, cellsL, cellsOf_agg, cellsOf_base, List.map_cons, List.map_nil, List.set_cons_zero, List.set_cons_succ, Nat.reduceAdd, Nat.zero_add, hG]
          exact hK _
        apply aops_step (by decide) rfl
        · intro K hK
          simp (disch := first | omega | decide) only [go_sem, f0, f1, f2, act_fieldAddr_t fo47_4, List.map]
          first | rw [mwp_fieldAddr_b (by simp (disch := first | omega | decide) only [go_sem, f0, f1, f2]; rfl)] | skip
          exact hK _
        apply aops_step0 rfl
        · intro K hK
          simp (disch := first | omega | decide) only [go_sem, f0, f1, f2, act_store_t ti4, List.map]
          first | rw [mwp_store_g1 (by first | (rw [hG]; rfl) | rfl) (by simp) rfl rfl] | rw [mwp_store_c (by simp (disch := first | omega | decide) only [go_sem, f0, f1, f2]; rfl) (by rfl) (by rfl) (by rfl) (by simp)] | rw [mwp_aStore_map (by simp (disch := first | omega | decide) only [go_sem, f0, f1, f2]; rfl) (by first | omega | (simp; omega)) (fun _ => rfl) rfl rfl (fun _ => rfl)] | skip
          try simp only [setAt, cellsL, cellsOf_agg, cellsOf_base, List.map_cons, List.map_nil, List.set_cons_zero, List.set_cons_succ, Nat.reduceAdd, Nat.zero_add, hG]
          exact hK _
        apply aops_step (by decide) rfl
        · intro K hK
          simp (disch := first | omega | decide) only [go_sem, f0, f1, f2, act_fieldAddr_t fo47_6, List.map]
          first | rw [mwp_fieldAddr_b (by simp (disch := first | omega | decide) only [go_sem, f0, f1, f2]; rfl)] | skip
          exact hK _
        apply aops_step0 rfl
        · intro K hK
          simp (disch := first | omega | decide) only [go_sem, f0, f1, f2, act_store_t ti3, List.map]
          first | rw [mwp_store_g1 (by first | (rw [hG]; rfl) | rfl) (by simp) rfl rfl] | rw [mwp_store_c (by simp (disch := first | omega | decide) only [go_sem, f0, f1, f2]; rfl) (by rfl) (by rfl) (by rfl) (by simp)] | rw [mwp_aStore_map (by simp (disch := first | omega | decide) only [go_sem, f0, f1, f2]; rfl) (by first | omega | (simp; omega)) (fun _ => rfl) rfl rfl (fun _ => rfl)] | skip
          try simp only [setAt, cellsL, cellsOf_agg, cellsOf_base, List.map_cons, List.map_nil, List.set_cons_zero, List.set_cons_succ, Nat.reduceAdd, Nat.zero_add, hG]
          exact hK _
        refine aops_nil ?_
        refine AW.seq ?_
        refine AW.seq ?_
        refine AW.region (cfg := cfg) ?_
        iterate 2 (apply aops_step (by decide) rfl; · (intro K hK; simp (disch := first | omega | decide) only [go_sem, f0, f1, f2]; exact hK _))
        apply aops_merge' (by decide) (by first | exact want_of (d := 50) rfl (by simp (disch := first | omega | decide) only [go_sem, f0, f1, f2, opn_cond]; rfl) | exact want_of_cond (d := 50) rfl (by simp (disch := first | omega | decide) only [go_sem, f0, f1, f2, opn_cond]; rfl))
        · intro hc K hK
          have hc2 := hc
          simp only [beq_iff_eq, decide_eq_true_eq, decide_eq_false_iff_not, Bool.or_eq_true, Bool.and_eq_true, Bool.or_eq_false_iff, Bool.and_eq_false_iff] at hc2
          simp (disch := first | omega | decide) only [go_sem, f0, f1, f2, opn_cond, hc, if_true, act_fieldAddr_t fo47_5]
          first | rw [mwp_fieldAddr_b (by simp (disch := first | omega | decide) only [go_sem, f0, f1, f2, opn_cond, hc, if_true]; rfl)] | skip
          exact hK _
        apply aops_merge' (by decide) (by first | exact want_of (d := 50) rfl (by simp (disch := first | omega | decide) only [go_sem, f0, f1, f2, opn_cond]; rfl) | exact want_of_cond (d := 50) rfl (by simp (disch := first | omega | decide) only [go_sem, f0, f1, f2, opn_cond]; rfl))
        · intro hc K hK
          have hc2 := hc
          simp only [beq_iff_eq, decide_eq_true_eq, decide_eq_false_iff_not, Bool.or_eq_true, Bool.and_eq_true, Bool.or_eq_false_iff, Bool.and_eq_false_iff] at hc2
          simp (disch := first | omega | decide) only [go_sem, f0, f1, f2, opn_cond, hc, if_true, act_load_t ti4]
          first | rw [mwp_load_i1 (by rfl)] | rw [mwp_load_g1 (by first | (rw [hG]; rfl) | rfl) (by rfl)] | rw [mwp_load_gs (by first | (rw [hG]; rfl) | rfl) (by simp)] | rw [mwp_load_bs (by simp (disch := first | omega | decide) only [go_sem, f0, f1, f2, opn_cond, hc, if_true]; rfl) (by simp [setAt])] | rw [mwp_load_b1 (by simp (disch := first | omega | decide) only [go_sem, f0, f1, f2, opn_cond, hc, if_true]; rfl) (by rfl)] | rw [mwp_aLoad_map (by simp (disch := first | omega | decide) only [go_sem, f0, f1, f2, opn_cond, hc, if_true]; rfl) (by first | omega | (simp; omega)) (fun _ => rfl)] | rw [mwp_aLoad_e1 (by simp (disch := first | omega | decide) only [go_sem, f0, f1, f2, opn_cond, hc, if_true]; rfl) (by simp) rfl] | skip
          exact hK _
        apply aops_merge' (by decide) (by first | exact want_of (d := 50) rfl (by simp (disch := first | omega | decide) only [go_sem, f0, f1, f2, opn_cond]; rfl) | exact want_of_cond (d := 50) rfl (by simp (disch := first | omega | decide) only [go_sem, f0, f1, f2, opn_cond]; rfl))
        · intro hc K hK
          have hc2 := hc
          simp only [beq_iff_eq, decide_eq_true_eq, decide_eq_false_iff_not, Bool.or_eq_true, Bool.and_eq_true, Bool.or_eq_false_iff, Bool.and_eq_false_iff] at hc2
          simp (disch := first | omega | decide) only [go_sem, f0, f1, f2, opn_cond, hc, if_true]
          exact hK _
        iterate 1 (apply aops_step (by decide) rfl; · (intro K hK; simp (disch := first | omega | decide) only [go_sem, f0, f1, f2]; exact hK _))
        refine aops_nil ?_
        apply AW.cond
        · simp (disch := first | omega | decide) only [go_sem, f0, f1, f2]; rfl
        case ht =>
          intro hb
          try simp only [Bool.or_eq_true, Bool.and_eq_true, Bool.or_eq_false_iff, Bool.and_eq_false_iff, decide_eq_true_eq, decide_eq_false_iff_not] at hb
          have hbt54 := hb
          refine AW.region (cfg := cfg) ?_
          apply aops_step (by decide) rfl
          · intro K hK
            simp (disch := first | omega | decide) only [go_sem, f0, f1, f2, act_fieldAddr_t fo47_5, List.map]
            first | rw [mwp_fieldAddr_b (by simp (disch := first | omega | decide) only [go_sem, f0, f1, f2]; rfl)] | skip
            exact hK _
          apply aops_step0 rfl
          · intro K hK
            simp (disch := first | omega | decide) only [go_sem, f0, f1, f2, act_store_t ti4, List.map]
            first | rw [mwp_store_g1 (by first | (rw [hG]; rfl) | rfl) (by simp) rfl rfl] | rw [mwp_store_c (by simp (disch := first | omega | decide) only [go_sem, f0, f1, f2]; rfl) (by rfl) (by rfl) (by rfl) (by simp)] | rw [mwp_aStore_map (by simp (disch := first | omega | decide) only [go_sem, f0, f1, f2]; rfl) (by first | omega | (simp; omega)) (fun _ => rfl) rfl rfl (fun _ => rfl)] | skip
            try simp only [setAt, cellsL, cellsOf_agg, cellsOf_base, List.map_cons, List.map_nil, List.set_cons_zero, List.set_cons_succ, Nat.reduceAdd, Nat.zero_add, hG]
            exact hK _
          iterate 1 (apply aops_step (by decide) rfl; · (intro K hK; simp (disch := first | omega | decide) only [go_sem, f0, f1, f2]; exact hK _))
          refine aops_nil ?_
          refine AW.seq ?_
          refine AW.region (cfg := cfg) ?_
          apply aops_step (by decide) rfl
          · intro K hK
            simp (disch := first | omega | decide) only [go_sem, f0, f1, f2, act_load_t ti47, List.map]
            first | rw [mwp_load_i1 (by rfl)] | rw [mwp_load_g1 (by first | (rw [hG]; rfl) | rfl) (by rfl)] | rw [mwp_load_gs (by first | (rw [hG]; rfl) | rfl) (by simp)] | rw [mwp_load_bs (by simp (disch := first | omega | decide) only [go_sem, f0, f1, f2]; rfl) (by simp [setAt])] | rw [mwp_load_b1 (by simp (disch := first | omega | decide) only [go_sem, f0, f1, f2]; rfl) (by rfl)] | rw [mwp_aLoad_map (by simp (disch := first | omega | decide) only [go_sem, f0, f1, f2]; rfl) (by first | omega | (simp; omega)) (fun _ => rfl)] | rw [mwp_aLoad_e1 (by simp (disch := first | omega | decide) only [go_sem, f0, f1, f2]; rfl) (by simp) rfl] | skip
            exact hK _
          iterate 2 (apply aops_step (by decide) rfl; · (intro K hK; simp (disch := first | omega | decide) only [go_sem, f0, f1, f2]; exact hK _))
          apply aops_step0 rfl
          · intro K hK
            simp (disch := first | omega | decide) only [go_sem, f0, f1, f2, act_store_t ti47, List.map]
            first | rw [mwp_store_g1 (by first | (rw [hG]; rfl) | rfl) (by simp) rfl rfl] | rw [mwp_store_c (by simp (disch := first | omega | decide) only [go_sem, f0, f1, f2]; rfl) (by rfl) (by rfl) (by rfl) (by simp)] | rw [mwp_aStore_map (by simp (disch := first | omega | decide) only [go_sem, f0, f1, f2]; rfl) (by first | omega | (simp; omega)) (fun _ => rfl) rfl rfl (fun _ => rfl)] | skip
            try simp only [setAt, cellsL, cellsOf_agg, cellsOf_base, List.map_cons, List.map_nil, List.set_cons_zero, List.set_cons_succ, Nat.reduceAdd, Nat.zero_add, hG]
            exact hK _
          iterate 3 (apply aops_step (by decide) rfl; · (intro K hK; simp (disch := first | omega | decide) only [go_sem, f0, f1, f2]; exact hK _))
          refine aops_nil ?_
          refine AW.ret ?_
          refine ⟨.inr rfl, ?_⟩
          refine leaves_mwp2 (rs := [.cell 6 47, .tmp 7, .tmp 8, .tmp 9]) rfl ?_
          simp (config := {failIfUnchanged := false}) [giveL, srcOne, rehome, freezeN, sub, ti47, upd, opn, aLoad, loadL, giveOne, reify, reifyL, readL, readOne, Mwp, M.bind, Mem.set, setAt, cellsL, hG, f0, f1, f2]
          clear hr hv hG f0
          obtain ⟨of, co, bo, ep, he, fu, ag, go⟩ := n
          all_goals (cases he <;> cases fu <;> cases go <;> cases h <;> simp_all [helloN, helloD, helloU, helloE, hBad, hStay, h2, hUp, h1, hDown, zn, gone, lost, rHelloN, rHelloD, rHelloU, rStay, rKeep, tickN, tickD, costN, costD, costE, costBad, rTickN, rTickD, rCostN, rCostD, chk, bad, okA, wi] <;> first | done | omega | (rw [Bool.eq_iff_iff]; simp; omega) | (split <;> simp_all <;> omega) | grind | trace_state)
        case hf =>
          intro hb
          try simp only [Bool.or_eq_true, Bool.and_eq_true, Bool.or_eq_false_iff, Bool.and_eq_false_iff, decide_eq_true_eq, decide_eq_false_iff_not] at hb
          have hbt54 := hb
          refine AW.skip ?_
          refine AW.seq ?_
          refine AW.region (cfg := cfg) ?_
          apply aops_step (by decide) rfl
          · intro K hK
            simp (disch := first | omega | decide) only [go_sem, f0, f1, f2, act_load_t ti47, List.map]
            first | rw [mwp_load_i1 (by rfl)] | rw [mwp_load_g1 (by first | (rw [hG]; rfl) | rfl) (by rfl)] | rw [mwp_load_gs (by first | (rw [hG]; rfl) | rfl) (by simp)] | rw [mwp_load_bs (by simp (disch := first | omega | decide) only [go_sem, f0, f1, f2]; rfl) (by simp [setAt])] | rw [mwp_load_b1 (by simp (disch := first | omega | decide) only [go_sem, f0, f1, f2]; rfl) (by rfl)] | rw [mwp_aLoad_map (by simp (disch := first | omega | decide) only [go_sem, f0, f1, f2]; rfl) (by first | omega | (simp; omega)) (fun _ => rfl)] | rw [mwp_aLoad_e1 (by simp (disch := first | omega | decide) only [go_sem, f0, f1, f2]; rfl) (by simp) rfl] | skip
            exact hK _
          iterate 2 (apply aops_step (by decide) rfl; · (intro K hK; simp (disch := first | omega | decide) only [go_sem, f0, f1, f2]; exact hK _))
          apply aops_step0 rfl
          · intro K hK
            simp (disch := first | omega | decide) only [go_sem, f0, f1, f2, act_store_t ti47, List.map]
            first | rw [mwp_store_g1 (by first | (rw [hG]; rfl) | rfl) (by simp) rfl rfl] | rw [mwp_store_c (by simp (disch := first | omega | decide) only [go_sem, f0, f1, f2]; rfl) (by rfl) (by rfl) (by rfl) (by simp)] | rw [mwp_aStore_map (by simp (disch := first | omega | decide) only [go_sem, f0, f1, f2]; rfl) (by first | omega | (simp; omega)) (fun _ => rfl) rfl rfl (fun _ => rfl)] | skip
            try simp only [setAt, cellsL, cellsOf_agg, cellsOf_base, List.map_cons, List.map_nil, List.set_cons_zero, List.set_cons_succ, Nat.reduceAdd, Nat.zero_add, hG]
            exact hK _
          iterate 3 (apply aops_step (by decide) rfl; · (intro K hK; simp (disch := first | omega | decide) only [go_sem, f0, f1, f2]; exact hK _))
          refine aops_nil ?_
          refine AW.ret ?_
          refine ⟨.inr rfl, ?_⟩
          refine leaves_mwp2 (rs := [.cell 6 47, .tmp 7, .tmp 8, .tmp 9]) rfl ?_
          simp (config := {failIfUnchanged := false}) [giveL, srcOne, rehome, freezeN, sub, ti47, upd, opn, aLoad, loadL, giveOne, reify, reifyL, readL, readOne, Mwp, M.bind, Mem.set, setAt, cellsL, hG, f0, f1, f2]
          clear hr hv hG f0
          obtain ⟨of, co, bo, ep, he, fu, ag, go⟩ := n
          all_goals (cases he <;> cases fu <;> cases go <;> cases h <;> simp_all [helloN, helloD, helloU, helloE, hBad, hStay, h2, hUp, h1, hDown, zn, gone, lost, rHelloN, rHelloD, rHelloU, rStay, rKeep, tickN, tickD, costN, costD, costE, costBad, rTickN, rTickD, rCostN, rCostD, chk, bad, okA, wi] <;> first | done | omega | (rw [Bool.eq_iff_iff]; simp; omega) | (split <;> simp_all <;> omega) | grind | trace_state)

set_option maxHeartbeats 4000000 in
set_option maxRecDepth 100000 in
theorem good_refHello (n : Near) (b : Int) (h : Bool) : Good Try.prog 31 [(.agg [i64 (n).of, i64 (n).co, i64 (n).bo, i64 (n).ep, .b (n).he, .b (n).fu, i64 (n).ag, .b (n).go], false), (i64 b, false), (.b h, false)] [] [(.agg [i64 (rHelloN n b h).of, i64 (rHelloN n b h).co, i64 (rHelloN n b h).bo, i64 (rHelloN n b h).ep, .b (rHelloN n b h).he, .b (rHelloN n b h).fu, i64 (rHelloN n b h).ag, .b (rHelloN n b h).go], false), (.b (rHelloD n b h), false), (.b (rHelloU n b h), false)] [] := by
  refine good_of_body2 48 Try.func31 rfl rfl rfl (by simp) ?_
  intro s m ha hr hv hG
  have f0 : s 0 = .v (.agg [i64 (n).of, i64 (n).co, i64 (n).bo, i64 (n).ep, .b (n).he, .b (n).fu, i64 (n).ag, .b (n).go]) := ha 0 _ rfl
  have f1 : s 1 = .v (i64 b) := ha 1 _ rfl
  have f2 : s 2 = .v (.b h) := ha 2 _ rfl
  clear ha
  refine AW.seq ?_
  refine AW.region (cfg := cfg) ?_
  apply aops_step (by decide) rfl
  · intro K hK
    simp (disch := first | omega | decide) only [go_sem, f0, f1, f2, act_box_t ti47, List.map]
    rw [settleL_vish _ _ (by rfl)]
    simp (disch := first | omega | decide) only [go_sem, f0, f1, f2, cellsL, List.map, List.length_cons, List.length_nil, Nat.reduceAdd, if_true]
    exact hK _
  apply aops_step (by decide) rfl
  · intro K hK
    simp (disch := first | omega | decide) only [go_sem, f0, f1, f2, act_alloc_t ti47, List.map]
    exact hK _
  iterate 2 (apply aops_step (by decide) rfl; · (intro K hK; simp (disch := first | omega | decide) only [go_sem, f0, f1, f2]; exact hK _))
  refine aops_nil ?_
  refine AW.seq ?_
  refine AW.seq ?_
  refine AW.region (cfg := cfg) ?_
  apply aops_step (by decide) rfl
  · intro K hK
    simp (disch := first | omega | decide) only [go_sem, f0, f1, f2, act_fieldAddr_t fo47_1, List.map]
    first | rw [mwp_fieldAddr_b (by simp (disch := first | omega | decide) only [go_sem, f0, f1, f2]; rfl)] | skip
    exact hK _
  apply aops_step (by decide) rfl
  · intro K hK
    simp (disch := first | omega | decide) only [go_sem, f0, f1, f2, act_load_t ti3, List.map]
    first | rw [mwp_load_i1 (by rfl)] | rw [mwp_load_g1 (by first | (rw [hG]; rfl) | rfl) (by rfl)] | rw [mwp_load_gs (by first | (rw [hG]; rfl) | rfl) (by simp)] | rw [mwp_load_bs (by simp (disch := first | omega | decide) only [go_sem, f0, f1, f2]; rfl) (by simp [setAt])] | rw [mwp_load_b1 (by simp (disch := first | omega | decide) only [go_sem, f0, f1, f2]; rfl) (by rfl)] | rw [mwp_aLoad_map (by simp (disch := first | omega | decide) only [go_sem, f0, f1, f2]; rfl) (by first | omega | (simp; omega)) (fun _ => rfl)] | rw [mwp_aLoad_e1 (by simp (disch := first | omega | decide) only [go_sem, f0, f1, f2]; rfl) (by simp) rfl] | skip
    exact hK _
  iterate 2 (apply aops_step (by decide) rfl; · (intro K hK; simp (disch := first | omega | decide) only [go_sem, f0, f1, f2]; exact hK _))
  apply aops_merge' (by decide) (by first | exact want_of (d := 13) rfl (by simp (disch := first | omega | decide) only [go_sem, f0, f1, f2, opn_cond]; rfl) | exact want_of_cond (d := 13) rfl (by simp (disch := first | omega | decide) only [go_sem, f0, f1, f2, opn_cond]; rfl))
  · intro hc K hK
    have hc2 := hc
    simp only [beq_iff_eq, decide_eq_true_eq, decide_eq_false_iff_not, Bool.or_eq_true, Bool.and_eq_true, Bool.or_eq_false_iff, Bool.and_eq_false_iff] at hc2
    simp (disch := first | omega | decide) only [go_sem, f0, f1, f2, opn_cond, hc, if_true]
    exact hK _
  apply aops_merge' (by decide) (by first | exact want_of (d := 13) rfl (by simp (disch := first | omega | decide) only [go_sem, f0, f1, f2, opn_cond]; rfl) | exact want_of_cond (d := 13) rfl (by simp (disch := first | omega | decide) only [go_sem, f0, f1, f2, opn_cond]; rfl))
  · intro hc K hK
    have hc2 := hc
    simp only [beq_iff_eq, decide_eq_true_eq, decide_eq_false_iff_not, Bool.or_eq_true, Bool.and_eq_true, Bool.or_eq_false_iff, Bool.and_eq_false_iff] at hc2
    simp (disch := first | omega | decide) only [go_sem, f0, f1, f2, opn_cond, hc, if_true, act_fieldAddr_t fo47_2]
    first | rw [mwp_fieldAddr_b (by simp (disch := first | omega | decide) only [go_sem, f0, f1, f2, opn_cond, hc, if_true]; rfl)] | skip
    exact hK _
  apply aops_merge' (by decide) (by first | exact want_of (d := 13) rfl (by simp (disch := first | omega | decide) only [go_sem, f0, f1, f2, opn_cond]; rfl) | exact want_of_cond (d := 13) rfl (by simp (disch := first | omega | decide) only [go_sem, f0, f1, f2, opn_cond]; rfl))
  · intro hc K hK
    have hc2 := hc
    simp only [beq_iff_eq, decide_eq_true_eq, decide_eq_false_iff_not, Bool.or_eq_true, Bool.and_eq_true, Bool.or_eq_false_iff, Bool.and_eq_false_iff] at hc2
    simp (disch := first | omega | decide) only [go_sem, f0, f1, f2, opn_cond, hc, if_true, act_load_t ti3]
    first | rw [mwp_load_i1 (by rfl)] | rw [mwp_load_g1 (by first | (rw [hG]; rfl) | rfl) (by rfl)] | rw [mwp_load_gs (by first | (rw [hG]; rfl) | rfl) (by simp)] | rw [mwp_load_bs (by simp (disch := first | omega | decide) only [go_sem, f0, f1, f2, opn_cond, hc, if_true]; rfl) (by simp [setAt])] | rw [mwp_load_b1 (by simp (disch := first | omega | decide) only [go_sem, f0, f1, f2, opn_cond, hc, if_true]; rfl) (by rfl)] | rw [mwp_aLoad_map (by simp (disch := first | omega | decide) only [go_sem, f0, f1, f2, opn_cond, hc, if_true]; rfl) (by first | omega | (simp; omega)) (fun _ => rfl)] | rw [mwp_aLoad_e1 (by simp (disch := first | omega | decide) only [go_sem, f0, f1, f2, opn_cond, hc, if_true]; rfl) (by simp) rfl] | skip
    exact hK _
  apply aops_merge' (by decide) (by first | exact want_of (d := 13) rfl (by simp (disch := first | omega | decide) only [go_sem, f0, f1, f2, opn_cond]; rfl) | exact want_of_cond (d := 13) rfl (by simp (disch := first | omega | decide) only [go_sem, f0, f1, f2, opn_cond]; rfl))
  · intro hc K hK
    have hc2 := hc
    simp only [beq_iff_eq, decide_eq_true_eq, decide_eq_false_iff_not, Bool.or_eq_true, Bool.and_eq_true, Bool.or_eq_false_iff, Bool.and_eq_false_iff] at hc2
    simp (disch := first | omega | decide) only [go_sem, f0, f1, f2, opn_cond, hc, if_true]
    exact hK _
  iterate 1 (apply aops_step (by decide) rfl; · (intro K hK; simp (disch := first | omega | decide) only [go_sem, f0, f1, f2]; exact hK _))
  refine aops_nil ?_
  apply AW.cond
  · simp (disch := first | omega | decide) only [go_sem, f0, f1, f2]; rfl
  case ht =>
    intro hb
    try simp only [Bool.or_eq_true, Bool.and_eq_true, Bool.or_eq_false_iff, Bool.and_eq_false_iff, decide_eq_true_eq, decide_eq_false_iff_not] at hb
    have hbt18 := hb
    refine AW.seq ?_
    refine AW.region (cfg := cfg) ?_
    apply aops_step (by decide) rfl
    · intro K hK
      simp (disch := first | omega | decide) only [go_sem, f0, f1, f2, act_load_t ti47, List.map]
      first | rw [mwp_load_i1 (by rfl)] | rw [mwp_load_g1 (by first | (rw [hG]; rfl) | rfl) (by rfl)] | rw [mwp_load_gs (by first | (rw [hG]; rfl) | rfl) (by simp)] | rw [mwp_load_bs (by simp (disch := first | omega | decide) only [go_sem, f0, f1, f2]; rfl) (by simp [setAt])] | rw [mwp_load_b1 (by simp (disch := first | omega | decide) only [go_sem, f0, f1, f2]; rfl) (by rfl)] | rw [mwp_aLoad_map (by simp (disch := first | omega | decide) only [go_sem, f0, f1, f2]; rfl) (by first | omega | (simp; omega)) (fun _ => rfl)] | rw [mwp_aLoad_e1 (by simp (disch := first | omega | decide) only [go_sem, f0, f1, f2]; rfl) (by simp) rfl] | skip
      exact hK _
    apply aops_step0 rfl
    · intro K hK
      simp (disch := first | omega | decide) only [go_sem, f0, f1, f2, act_store_t ti47, List.map]
      first | rw [mwp_store_g1 (by first | (rw [hG]; rfl) | rfl) (by simp) rfl rfl] | rw [mwp_store_c (by simp (disch := first | omega | decide) only [go_sem, f0, f1, f2]; rfl) (by rfl) (by rfl) (by rfl) (by simp)] | rw [mwp_aStore_map (by simp (disch := first | omega | decide) only [go_sem, f0, f1, f2]; rfl) (by first | omega | (simp; omega)) (fun _ => rfl) rfl rfl (fun _ => rfl)] | skip
      try simp only [setAt, cellsL, cellsOf_agg, cellsOf_base, List.map_cons, List.map_nil, List.set_cons_zero, List.set_cons_succ, Nat.reduceAdd, Nat.zero_add, hG]
      exact hK _
    iterate 2 (apply aops_step (by decide) rfl; · (intro K hK; simp (disch := first | omega | decide) only [go_sem, f0, f1, f2]; exact hK _))
    refine aops_nil ?_
    refine AW.ret ?_
    refine ⟨.inr rfl, ?_⟩
    refine leaves_mwp2 (rs := [.cell 6 47, .tmp 7, .tmp 8]) rfl ?_
    simp (config := {failIfUnchanged := false}) [giveL, srcOne, rehome, freezeN, sub, ti47, upd, opn, aLoad, loadL, giveOne, reify, reifyL, readL, readOne, Mwp, M.bind, Mem.set, setAt, cellsL, hG, f0, f1, f2]
    clear hr hv hG f0
    obtain ⟨of, co, bo, ep, he, fu, ag, go⟩ := n
    all_goals (cases he <;> cases fu <;> cases go <;> cases h <;> simp_all [helloN, helloD, helloU, helloE, hBad, hStay, h2, hUp, h1, hDown, zn, gone, lost, rHelloN, rHelloD, rHelloU, rStay, rKeep, tickN, tickD, costN, costD, costE, costBad, rTickN, rTickD, rCostN, rCostD, chk, bad, okA, wi] <;> first | done | omega | (rw [Bool.eq_iff_iff]; simp; omega) | (split <;> simp_all <;> omega) | grind | trace_state)
  case hf =>
    intro hb
    try simp only [Bool.or_eq_true, Bool.and_eq_true, Bool.or_eq_false_iff, Bool.and_eq_false_iff, decide_eq_true_eq, decide_eq_false_iff_not] at hb
    have hbt18 := hb
    refine AW.skip ?_
    refine AW.seq ?_
    refine AW.region (cfg := cfg) ?_
    apply aops_step (by decide) rfl
    · intro K hK
      simp (disch := first | omega | decide) only [go_sem, f0, f1, f2, act_fieldAddr_t fo47_0, List.map]
      first | rw [mwp_fieldAddr_b (by simp (disch := first | omega | decide) only [go_sem, f0, f1, f2]; rfl)] | skip
      exact hK _
    apply aops_step (by decide) rfl
    · intro K hK
      simp (disch := first | omega | decide) only [go_sem, f0, f1, f2, act_load_t ti3, List.map]
      first | rw [mwp_load_i1 (by rfl)] | rw [mwp_load_g1 (by first | (rw [hG]; rfl) | rfl) (by rfl)] | rw [mwp_load_gs (by first | (rw [hG]; rfl) | rfl) (by simp)] | rw [mwp_load_bs (by simp (disch := first | omega | decide) only [go_sem, f0, f1, f2]; rfl) (by simp [setAt])] | rw [mwp_load_b1 (by simp (disch := first | omega | decide) only [go_sem, f0, f1, f2]; rfl) (by rfl)] | rw [mwp_aLoad_map (by simp (disch := first | omega | decide) only [go_sem, f0, f1, f2]; rfl) (by first | omega | (simp; omega)) (fun _ => rfl)] | rw [mwp_aLoad_e1 (by simp (disch := first | omega | decide) only [go_sem, f0, f1, f2]; rfl) (by simp) rfl] | skip
      exact hK _
    apply aops_step (by decide) rfl
    · intro K hK
      simp (disch := first | omega | decide) only [go_sem, f0, f1, f2, act_fieldAddr_t fo47_1, List.map]
      first | rw [mwp_fieldAddr_b (by simp (disch := first | omega | decide) only [go_sem, f0, f1, f2]; rfl)] | skip
      exact hK _
    apply aops_step (by decide) rfl
    · intro K hK
      simp (disch := first | omega | decide) only [go_sem, f0, f1, f2, act_load_t ti3, List.map]
      first | rw [mwp_load_i1 (by rfl)] | rw [mwp_load_g1 (by first | (rw [hG]; rfl) | rfl) (by rfl)] | rw [mwp_load_gs (by first | (rw [hG]; rfl) | rfl) (by simp)] | rw [mwp_load_bs (by simp (disch := first | omega | decide) only [go_sem, f0, f1, f2]; rfl) (by simp [setAt])] | rw [mwp_load_b1 (by simp (disch := first | omega | decide) only [go_sem, f0, f1, f2]; rfl) (by rfl)] | rw [mwp_aLoad_map (by simp (disch := first | omega | decide) only [go_sem, f0, f1, f2]; rfl) (by first | omega | (simp; omega)) (fun _ => rfl)] | rw [mwp_aLoad_e1 (by simp (disch := first | omega | decide) only [go_sem, f0, f1, f2]; rfl) (by simp) rfl] | skip
      exact hK _
    iterate 1 (apply aops_step (by decide) rfl; · (intro K hK; simp (disch := first | omega | decide) only [go_sem, f0, f1, f2]; exact hK _))
    apply aops_step (by decide) rfl
    · intro K hK
      simp (disch := first | omega | decide) only [go_sem, f0, f1, f2, act_fieldAddr_t fo47_3, List.map]
      first | rw [mwp_fieldAddr_b (by simp (disch := first | omega | decide) only [go_sem, f0, f1, f2]; rfl)] | skip
      exact hK _
    apply aops_step (by decide) rfl
    · intro K hK
      simp (disch := first | omega | decide) only [go_sem, f0, f1, f2, act_load_t ti3, List.map]
      first | rw [mwp_load_i1 (by rfl)] | rw [mwp_load_g1 (by first | (rw [hG]; rfl) | rfl) (by rfl)] | rw [mwp_load_gs (by first | (rw [hG]; rfl) | rfl) (by simp)] | rw [mwp_load_bs (by simp (disch := first | omega | decide) only [go_sem, f0, f1, f2]; rfl) (by simp [setAt])] | rw [mwp_load_b1 (by simp (disch := first | omega | decide) only [go_sem, f0, f1, f2]; rfl) (by rfl)] | rw [mwp_aLoad_map (by simp (disch := first | omega | decide) only [go_sem, f0, f1, f2]; rfl) (by first | omega | (simp; omega)) (fun _ => rfl)] | rw [mwp_aLoad_e1 (by simp (disch := first | omega | decide) only [go_sem, f0, f1, f2]; rfl) (by simp) rfl] | skip
      exact hK _
    iterate 1 (apply aops_step (by decide) rfl; · (intro K hK; simp (disch := first | omega | decide) only [go_sem, f0, f1, f2]; exact hK _))
    apply aops_step (by decide) rfl
    · intro K hK
      simp (disch := first | omega | decide) only [go_sem, f0, f1, f2, act_build_t ti47 pl47, List.map]
      simp [-List.map_take, -List.map_drop, fillL, okOne, cellishAV, Value.oneCell', cellsL, cellsOf, setAt, M.bind, Mwp]
      exact hK _
    apply aops_step (by decide) rfl
    · intro K hK
      simp (disch := first | omega | decide) only [go_sem, f0, f1, f2, act_alloc_t ti47, List.map]
      exact hK _
    apply aops_step0 rfl
    · intro K hK
      simp (disch := first | omega | decide) only [go_sem, f0, f1, f2, act_store_t ti47, List.map]
      first | rw [mwp_store_g1 (by first | (rw [hG]; rfl) | rfl) (by simp) rfl rfl] | rw [mwp_store_c (by simp (disch := first | omega | decide) only [go_sem, f0, f1, f2]; rfl) (by rfl) (by rfl) (by rfl) (by simp)] | rw [mwp_aStore_map (by simp (disch := first | omega | decide) only [go_sem, f0, f1, f2]; rfl) (by first | omega | (simp; omega)) (fun _ => rfl) rfl rfl (fun _ => rfl)] | skip
      try simp only [setAt, cellsL, cellsOf_agg, cellsOf_base, List.map_cons, List.map_nil, List.set_cons_zero, List.set_cons_succ, Nat.reduceAdd, Nat.zero_add, hG]
      exact hK _
    refine aops_nil ?_
    refine AW.seq ?_
    refine AW.seq ?_
    refine AW.region (cfg := cfg) ?_
    apply aops_step (by decide) rfl
    · intro K hK
      simp (disch := first | omega | decide) only [go_sem, f0, f1, f2, act_fieldAddr_t fo47_5, List.map]
      first | rw [mwp_fieldAddr_b (by simp (disch := first | omega | decide) only [go_sem, f0, f1, f2]; rfl)] | skip
      exact hK _
    apply aops_step (by decide) rfl
    · intro K hK
      simp (disch := first | omega | decide) only [go_sem, f0, f1, f2, act_load_t ti4, List.map]
      first | rw [mwp_load_i1 (by rfl)] | rw [mwp_load_g1 (by first | (rw [hG]; rfl) | rfl) (by rfl)] | rw [mwp_load_gs (by first | (rw [hG]; rfl) | rfl) (by simp)] | rw [mwp_load_bs (by simp (disch := first | omega | decide) only [go_sem, f0, f1, f2]; rfl) (by simp [setAt])] | rw [mwp_load_b1 (by simp (disch := first | omega | decide) only [go_sem, f0, f1, f2]; rfl) (by rfl)] | rw [mwp_aLoad_map (by simp (disch := first | omega | decide) only [go_sem, f0, f1, f2]; rfl) (by first | omega | (simp; omega)) (fun _ => rfl)] | rw [mwp_aLoad_e1 (by simp (disch := first | omega | decide) only [go_sem, f0, f1, f2]; rfl) (by simp) rfl] | skip
      exact hK _
    iterate 1 (apply aops_step (by decide) rfl; · (intro K hK; simp (disch := first | omega | decide) only [go_sem, f0, f1, f2]; exact hK _))
    apply aops_merge' (by decide) (by first | exact want_of (d := 31) rfl (by simp (disch := first | omega | decide) only [go_sem, f0, f1, f2, opn_cond]; rfl) | exact want_of_cond (d := 31) rfl (by simp (disch := first | omega | decide) only [go_sem, f0, f1, f2, opn_cond]; rfl))
    · intro hc K hK
      have hc2 := hc
      simp only [beq_iff_eq, decide_eq_true_eq, decide_eq_false_iff_not, Bool.or_eq_true, Bool.and_eq_true, Bool.or_eq_false_iff, Bool.and_eq_false_iff] at hc2
      simp (disch := first | omega | decide) only [go_sem, f0, f1, f2, opn_cond, hc, if_true]
      exact hK _
    iterate 2 (apply aops_step (by decide) rfl; · (intro K hK; simp (disch := first | omega | decide) only [go_sem, f0, f1, f2]; exact hK _))
    apply aops_merge' (by decide) (by first | exact want_of (d := 34) rfl (by simp (disch := first | omega | decide) only [go_sem, f0, f1, f2, opn_cond]; rfl) | exact want_of_cond (d := 34) rfl (by simp (disch := first | omega | decide) only [go_sem, f0, f1, f2, opn_cond]; rfl))
    · intro hc K hK
      have hc2 := hc
      simp only [beq_iff_eq, decide_eq_true_eq, decide_eq_false_iff_not, Bool.or_eq_true, Bool.and_eq_true, Bool.or_eq_false_iff, Bool.and_eq_false_iff] at hc2
      simp (disch := first | omega | decide) only [go_sem, f0, f1, f2, opn_cond, hc, if_true]
      exact hK _
    apply aops_merge' (by decide) (by first | exact want_of (d := 34) rfl (by simp (disch := first | omega | decide) only [go_sem, f0, f1, f2, opn_cond]; rfl) | exact want_of_cond (d := 34) rfl (by simp (disch := first | omega | decide) only [go_sem, f0, f1, f2, opn_cond]; rfl))
    · intro hc K hK
      have hc2 := hc
      simp only [beq_iff_eq, decide_eq_true_eq, decide_eq_false_iff_not, Bool.or_eq_true, Bool.and_eq_true, Bool.or_eq_false_iff, Bool.and_eq_false_iff] at hc2
      simp (disch := first | omega | decide) only [go_sem, f0, f1, f2, opn_cond, hc, if_true, act_fieldAddr_t fo47_2]
      first | rw [mwp_fieldAddr_b (by simp (disch := first | omega | decide) only [go_sem, f0, f1, f2, opn_cond, hc, if_true]; rfl)] | skip
      exact hK _
    apply aops_merge' (by decide) (by first | exact want_of (d := 34) rfl (by simp (disch := first | omega | decide) only [go_sem, f0, f1, f2, opn_cond]; rfl) | exact want_of_cond (d := 34) rfl (by simp (disch := first | omega | decide) only [go_sem, f0, f1, f2, opn_cond]; rfl))
    · intro hc K hK
      have hc2 := hc
      simp only [beq_iff_eq, decide_eq_true_eq, decide_eq_false_iff_not, Bool.or_eq_true, Bool.and_eq_true, Bool.or_eq_false_iff, Bool.and_eq_false_iff] at hc2
      simp (disch := first | omega | decide) only [go_sem, f0, f1, f2, opn_cond, hc, if_true, act_load_t ti3]
      first | rw [mwp_load_i1 (by rfl)] | rw [mwp_load_g1 (by first | (rw [hG]; rfl) | rfl) (by rfl)] | rw [mwp_load_gs (by first | (rw [hG]; rfl) | rfl) (by simp)] | rw [mwp_load_bs (by simp (disch := first | omega | decide) only [go_sem, f0, f1, f2, opn_cond, hc, if_true]; rfl) (by simp [setAt])] | rw [mwp_load_b1 (by simp (disch := first | omega | decide) only [go_sem, f0, f1, f2, opn_cond, hc, if_true]; rfl) (by rfl)] | rw [mwp_aLoad_map (by simp (disch := first | omega | decide) only [go_sem, f0, f1, f2, opn_cond, hc, if_true]; rfl) (by first | omega | (simp; omega)) (fun _ => rfl)] | rw [mwp_aLoad_e1 (by simp (disch := first | omega | decide) only [go_sem, f0, f1, f2, opn_cond, hc, if_true]; rfl) (by simp) rfl] | skip
      exact hK _
    apply aops_merge' (by decide) (by first | exact want_of (d := 34) rfl (by simp (disch := first | omega | decide) only [go_sem, f0, f1, f2, opn_cond]; rfl) | exact want_of_cond (d := 34) rfl (by simp (disch := first | omega | decide) only [go_sem, f0, f1, f2, opn_cond]; rfl))
    · intro hc K hK
      have hc2 := hc
      simp only [beq_iff_eq, decide_eq_true_eq, decide_eq_false_iff_not, Bool.or_eq_true, Bool.and_eq_true, Bool.or_eq_false_iff, Bool.and_eq_false_iff] at hc2
      simp (disch := first | omega | decide) only [go_sem, f0, f1, f2, opn_cond, hc, if_true]
      exact hK _
    iterate 1 (apply aops_step (by decide) rfl; · (intro K hK; simp (disch := first | omega | decide) only [go_sem, f0, f1, f2]; exact hK _))
    refine aops_nil ?_
    apply AW.cond
    · simp (disch := first | omega | decide) only [go_sem, f0, f1, f2]; rfl
    case ht =>
      intro hb
      try simp only [Bool.or_eq_true, Bool.and_eq_true, Bool.or_eq_false_iff, Bool.and_eq_false_iff, decide_eq_true_eq, decide_eq_false_iff_not] at hb
      have hbt39 := hb
      refine AW.seq ?_
      refine AW.region (cfg := cfg) ?_
      apply aops_step (by decide) rfl
      · intro K hK
        simp (disch := first | omega | decide) only [go_sem, f0, f1, f2, act_fieldAddr_t fo47_7, List.map]
        first | rw [mwp_fieldAddr_b (by simp (disch := first | omega | decide) only [go_sem, f0, f1, f2]; rfl)] | skip
        exact hK _
      apply aops_step (by decide) rfl
      · intro K hK
        simp (disch := first | omega | decide) only [go_sem, f0, f1, f2, act_load_t ti4, List.map]
        first | rw [mwp_load_i1 (by rfl)] | rw [mwp_load_g1 (by first | (rw [hG]; rfl) | rfl) (by rfl)] | rw [mwp_load_gs (by first | (rw [hG]; rfl) | rfl) (by simp)] | rw [mwp_load_bs (by simp (disch := first | omega | decide) only [go_sem, f0, f1, f2]; rfl) (by simp [setAt])] | rw [mwp_load_b1 (by simp (disch := first | omega | decide) only [go_sem, f0, f1, f2]; rfl) (by rfl)] | rw [mwp_aLoad_map (by simp (disch := first | omega | decide) only [go_sem, f0, f1, f2]; rfl) (by first | omega | (simp; omega)) (fun _ => rfl)] | rw [mwp_aLoad_e1 (by simp (disch := first | omega | decide) only [go_sem, f0, f1, f2]; rfl) (by simp) rfl] | skip
        exact hK _
      apply aops_step (by decide) rfl
      · intro K hK
        simp (disch := first | omega | decide) only [go_sem, f0, f1, f2, act_fieldAddr_t fo47_7, List.map]
        first | rw [mwp_fieldAddr_b (by simp (disch := first | omega | decide) only [go_sem, f0, f1, f2]; rfl)] | skip
        exact hK _
      apply aops_step0 rfl
      · intro K hK
        simp (disch := first | omega | decide) only [go_sem, f0, f1, f2, act_store_t ti4, List.map]
        first | rw [mwp_store_g1 (by first | (rw [hG]; rfl) | rfl) (by simp) rfl rfl] | rw [mwp_store_c (by simp (disch := first | omega | decide) only [go_sem, f0, f1, f2]; rfl) (by rfl) (by rfl) (by rfl) (by simp)] | rw [mwp_aStore_map (by simp (disch := first | omega | decide) only [go_sem, f0, f1, f2]; rfl) (by first | omega | (simp; omega)) (fun _ => rfl) rfl rfl (fun _ => rfl)] | skip
        try simp only [setAt, cellsL, cellsOf_agg, cellsOf_base, List.map_cons, List.map_nil, List.set_cons_zero, List.set_cons_succ, Nat.reduceAdd, Nat.zero_add, hG]
        exact hK _
      refine aops_nil ?_
      refine AW.seq ?_
      refine AW.region (cfg := cfg) ?_
      apply aops_step (by decide) rfl
      · intro K hK
        simp (disch := first | omega | decide) only [go_sem, f0, f1, f2, act_load_t ti47, List.map]
        first | rw [mwp_load_i1 (by rfl)] | rw [mwp_load_g1 (by first | (rw [hG]; rfl) | rfl) (by rfl)] | rw [mwp_load_gs (by first | (rw [hG]; rfl) | rfl) (by simp)] | rw [mwp_load_bs (by simp (disch := first | omega | decide) only [go_sem, f0, f1, f2]; rfl) (by simp [setAt])] | rw [mwp_load_b1 (by simp (disch := first | omega | decide) only [go_sem, f0, f1, f2]; rfl) (by rfl)] | rw [mwp_aLoad_map (by simp (disch := first | omega | decide) only [go_sem, f0, f1, f2]; rfl) (by first | omega | (simp; omega)) (fun _ => rfl)] | rw [mwp_aLoad_e1 (by simp (disch := first | omega | decide) only [go_sem, f0, f1, f2]; rfl) (by simp) rfl] | skip
        exact hK _
      apply aops_step0 rfl
      · intro K hK
        simp (disch := first | omega | decide) only [go_sem, f0, f1, f2, act_store_t ti47, List.map]
        first | rw [mwp_store_g1 (by first | (rw [hG]; rfl) | rfl) (by simp) rfl rfl] | rw [mwp_store_c (by simp (disch := first | omega | decide) only [go_sem, f0, f1, f2]; rfl) (by rfl) (by rfl) (by rfl) (by simp)] | rw [mwp_aStore_map (by simp (disch := first | omega | decide) only [go_sem, f0, f1, f2]; rfl) (by first | omega | (simp; omega)) (fun _ => rfl) rfl rfl (fun _ => rfl)] | skip
        try simp only [setAt, cellsL, cellsOf_agg, cellsOf_base, List.map_cons, List.map_nil, List.set_cons_zero, List.set_cons_succ, Nat.reduceAdd, Nat.zero_add, hG]
        exact hK _
      iterate 2 (apply aops_step (by decide) rfl; · (intro K hK; simp (disch := first | omega | decide) only [go_sem, f0, f1, f2]; exact hK _))
      refine aops_nil ?_
      refine AW.ret ?_
      refine ⟨.inr rfl, ?_⟩
      refine leaves_mwp2 (rs := [.cell 6 47, .tmp 7, .tmp 8]) rfl ?_
      simp (config := {failIfUnchanged := false}) [giveL, srcOne, rehome, freezeN, sub, ti47, upd, opn, aLoad, loadL, giveOne, reify, reifyL, readL, readOne, Mwp, M.bind, Mem.set, setAt, cellsL, hG, f0, f1, f2]
      clear hr hv hG f0
      obtain ⟨of, co, bo, ep, he, fu, ag, go⟩ := n
      all_goals (cases he <;> cases fu <;> cases go <;> cases h <;> simp_all [helloN, helloD, helloU, helloE, hBad, hStay, h2, hUp, h1, hDown, zn, gone, lost, rHelloN, rHelloD, rHelloU, rStay, rKeep, tickN, tickD, costN, costD, costE, costBad, rTickN, rTickD, rCostN, rCostD, chk, bad, okA, wi] <;> first | done | omega | (rw [Bool.eq_iff_iff]; simp; omega) | (split <;> simp_all <;> omega) | grind | trace_state)
    case hf =>
      intro hb
      try simp only [Bool.or_eq_true, Bool.and_eq_true, Bool.or_eq_false_iff, Bool.and_eq_false_iff, decide_eq_true_eq, decide_eq_false_iff_not] at hb
      have hbt39 := hb
      refine AW.skip ?_
      refine AW.seq ?_
      refine AW.draw (cfg := cfg) (by kernel_rfl) (by kernel_rfl) (by kernel_rfl) ?_
      apply adraw_step rfl
      · intro K hK
        simp (disch := first | omega | decide) only [go_sem, f0, f1, f2, act_load_t ti47, List.map]
        first | rw [mwp_load_i1 (by rfl)] | rw [mwp_load_g1 (by first | (rw [hG]; rfl) | rfl) (by rfl)] | rw [mwp_load_gs (by first | (rw [hG]; rfl) | rfl) (by simp)] | rw [mwp_load_bs (by simp (disch := first | omega | decide) only [go_sem, f0, f1, f2]; rfl) (by simp [setAt])] | rw [mwp_load_b1 (by simp (disch := first | omega | decide) only [go_sem, f0, f1, f2]; rfl) (by rfl)] | rw [mwp_aLoad_map (by simp (disch := first | omega | decide) only [go_sem, f0, f1, f2]; rfl) (by first | omega | (simp; omega)) (fun _ => rfl)] | rw [mwp_aLoad_e1 (by simp (disch := first | omega | decide) only [go_sem, f0, f1, f2]; rfl) (by simp) rfl] | skip
        exact hK
      apply adraw_step rfl
      · intro K hK
        simp (disch := first | omega | decide) only [go_sem, f0, f1, f2, act_fieldAddr_t fo47_5, List.map]
        first | rw [mwp_fieldAddr_b (by simp (disch := first | omega | decide) only [go_sem, f0, f1, f2]; rfl)] | skip
        exact hK
      apply adraw_step rfl
      · intro K hK
        simp (disch := first | omega | decide) only [go_sem, f0, f1, f2, act_load_t ti4, List.map]
        first | rw [mwp_load_i1 (by rfl)] | rw [mwp_load_g1 (by first | (rw [hG]; rfl) | rfl) (by rfl)] | rw [mwp_load_gs (by first | (rw [hG]; rfl) | rfl) (by simp)] | rw [mwp_load_bs (by simp (disch := first | omega | decide) only [go_sem, f0, f1, f2]; rfl) (by simp [setAt])] | rw [mwp_load_b1 (by simp (disch := first | omega | decide) only [go_sem, f0, f1, f2]; rfl) (by rfl)] | rw [mwp_aLoad_map (by simp (disch := first | omega | decide) only [go_sem, f0, f1, f2]; rfl) (by first | omega | (simp; omega)) (fun _ => rfl)] | rw [mwp_aLoad_e1 (by simp (disch := first | omega | decide) only [go_sem, f0, f1, f2]; rfl) (by simp) rfl] | skip
        exact hK
      iterate 1 (apply adraw_step rfl; · (intro K hK; simp (disch := first | omega | decide) only [go_sem, f0, f1, f2]; exact hK))
      apply adraw_step0 rfl
      · intro K hK
        simp (disch := first | omega | decide) only [go_sem, f0, f1, f2, act_store_t ti47, List.map]
        first | rw [mwp_store_g1 (by first | (rw [hG]; rfl) | rfl) (by simp) rfl rfl] | rw [mwp_store_c (by simp (disch := first | omega | decide) only [go_sem, f0, f1, f2]; rfl) (by rfl) (by rfl) (by rfl) (by simp)] | rw [mwp_aStore_map (by simp (disch := first | omega | decide) only [go_sem, f0, f1, f2]; rfl) (by first | omega | (simp; omega)) (fun _ => rfl) rfl rfl (fun _ => rfl)] | skip
        try simp only [setAt, cellsL, cellsOf_agg, cellsOf_base, List.map_cons, List.map_nil, List.set_cons_zero, List.set_cons_succ, Nat.reduceAdd, Nat.zero_add, hG]
        exact hK
      iterate 2 (apply adraw_step rfl; · (intro K hK; simp (disch := first | omega | decide) only [go_sem, f0, f1, f2]; exact hK))
      refine adraw_nil (by kernel_rfl) ?_
      refine AW.ret ?_
      refine ⟨.inr rfl, ?_⟩
      refine leaves_mwp2 (rs := [.cell 6 47, .tmp 7, .tmp 8]) rfl ?_
      simp (config := {failIfUnchanged := false}) [giveL, srcOne, rehome, freezeN, sub, ti47, upd, opn, aLoad, loadL, giveOne, reify, reifyL, readL, readOne, Mwp, M.bind, Mem.set, setAt, cellsL, hG, f0, f1, f2]
      clear hr hv hG f0
      obtain ⟨of, co, bo, ep, he, fu, ag, go⟩ := n
      all_goals (cases he <;> cases fu <;> cases go <;> cases h <;> simp_all [helloN, helloD, helloU, helloE, hBad, hStay, h2, hUp, h1, hDown, zn, gone, lost, rHelloN, rHelloD, rHelloU, rStay, rKeep, tickN, tickD, costN, costD, costE, costBad, rTickN, rTickD, rCostN, rCostD, chk, bad, okA, wi] <;> first | done | omega | (rw [Bool.eq_iff_iff]; simp; omega) | (split <;> simp_all <;> omega) | grind | trace_state)

set_option maxHeartbeats 4000000 in
set_option maxRecDepth 100000 in
theorem good_Tick (n : Near) : Good Try.prog 40 [(.agg [i64 (n).of, i64 (n).co, i64 (n).bo, i64 (n).ep, .b (n).he, .b (n).fu, i64 (n).ag, .b (n).go], false)] [] [(.agg [i64 (tickN n).of, i64 (tickN n).co, i64 (tickN n).bo, i64 (tickN n).ep, .b (tickN n).he, .b (tickN n).fu, i64 (tickN n).ag, .b (tickN n).go], false), (.b (tickD n), false), (i64 (chk n), false)] [] := by
  refine good_of_body2 28 Try.func40 rfl rfl rfl (by simp) ?_
  intro s m ha hr hv hG
  have f0 : s 0 = .v (.agg [i64 (n).of, i64 (n).co, i64 (n).bo, i64 (n).ep, .b (n).he, .b (n).fu, i64 (n).ag, .b (n).go]) := ha 0 _ rfl
  clear ha
  refine AW.seq ?_
  refine AW.region (cfg := cfg) ?_
  apply aops_step (by decide) rfl
  · intro K hK
    simp (disch := first | omega | decide) only [go_sem, f0, act_box_t ti47, List.map]
    rw [settleL_vish _ _ (by rfl)]
    simp (disch := first | omega | decide) only [go_sem, f0, cellsL, List.map, List.length_cons, List.length_nil, Nat.reduceAdd, if_true]
    exact hK _
  apply aops_step (by decide) rfl
  · intro K hK
    simp (disch := first | omega | decide) only [go_sem, f0, act_alloc_t ti47, List.map]
    exact hK _
  iterate 2 (apply aops_step (by decide) rfl; · (intro K hK; simp (disch := first | omega | decide) only [go_sem, f0]; exact hK _))
  refine aops_nil ?_
  refine AW.seq ?_
  refine AW.block ?_
  refine AW.seq ?_
  refine AW.region (cfg := cfg) ?_
  apply aops_step (by decide) rfl
  · intro K hK
    simp (disch := first | omega | decide) only [go_sem, f0, act_load_t ti47, List.map]
    first | rw [mwp_load_i1 (by rfl)] | rw [mwp_load_g1 (by first | (rw [hG]; rfl) | rfl) (by rfl)] | rw [mwp_load_gs (by first | (rw [hG]; rfl) | rfl) (by simp)] | rw [mwp_load_bs (by simp (disch := first | omega | decide) only [go_sem, f0]; rfl) (by simp [setAt])] | rw [mwp_load_b1 (by simp (disch := first | omega | decide) only [go_sem, f0]; rfl) (by rfl)] | rw [mwp_aLoad_map (by simp (disch := first | omega | decide) only [go_sem, f0]; rfl) (by first | omega | (simp; omega)) (fun _ => rfl)] | rw [mwp_aLoad_e1 (by simp (disch := first | omega | decide) only [go_sem, f0]; rfl) (by simp) rfl] | skip
    exact hK _
  apply aops_step (by decide) rfl
  · intro K hK
    simp (disch := first | omega | decide) only [go_sem, f0, act_call, List.map]
    apply mwp_call_s rfl rfl rfl
    · intro Q hQ
      simp (disch := first | omega | decide) only [go_sem, f0, peekL, reifyL_nil, reifyL_cons, reify_v]
      first | exact hQ | ((first | rw [peek_own (by simp (disch := first | omega | decide) only [go_sem, f0, peekL]; rfl)] | rw [mwp_reify_own (by simp (disch := first | omega | decide) only [go_sem, f0, peekL]; rfl)]); exact hQ) | ((first | rw [peek_own (by simp (disch := first | omega | decide) only [go_sem, f0, peekL]; rfl)] | rw [mwp_reify_own (by simp (disch := first | omega | decide) only [go_sem, f0, peekL]; rfl)]); simp (disch := first | omega | decide) only [go_sem, f0, peekL]; (first | rw [peek_own (by simp (disch := first | omega | decide) only [go_sem, f0, peekL]; rfl)] | rw [mwp_reify_own (by simp (disch := first | omega | decide) only [go_sem, f0, peekL]; rfl)]); exact hQ) | ((first | rw [peek_own (by simp (disch := first | omega | decide) only [go_sem, f0, peekL]; rfl)] | rw [mwp_reify_own (by simp (disch := first | omega | decide) only [go_sem, f0, peekL]; rfl)]); simp (disch := first | omega | decide) only [go_sem, f0, peekL]; exact hQ)
    · exact good_Check _
    · simp [-List.map_take, -List.map_drop, noPtrL, noPtr, noPtrL_bsl, noPtrL_map, sub]
    · rfl
    · exact hK _
  iterate 2 (apply aops_step (by decide) rfl; · (intro K hK; simp (disch := first | omega | decide) only [go_sem, f0]; exact hK _))
  refine aops_nil ?_
  apply AW.cond
  · simp (disch := first | omega | decide) only [go_sem, f0]; rfl
  case ht =>
    intro hb
    try simp only [Bool.or_eq_true, Bool.and_eq_true, Bool.or_eq_false_iff, Bool.and_eq_false_iff, decide_eq_true_eq, decide_eq_false_iff_not] at hb
    have hbt5 := hb
    refine AW.seq ?_
    refine AW.region (cfg := cfg) ?_
    apply aops_step (by decide) rfl
    · intro K hK
      simp (disch := first | omega | decide) only [go_sem, f0, act_build_t ti47 pl47, List.map]
      simp [-List.map_take, -List.map_drop, fillL, okOne, cellishAV, Value.oneCell', cellsL, cellsOf, setAt, M.bind, Mwp]
      exact hK _
    apply aops_step0 rfl
    · intro K hK
      simp (disch := first | omega | decide) only [go_sem, f0, act_store_t ti47, List.map]
      first | rw [mwp_store_g1 (by first | (rw [hG]; rfl) | rfl) (by simp) rfl rfl] | rw [mwp_store_c (by simp (disch := first | omega | decide) only [go_sem, f0]; rfl) (by rfl) (by rfl) (by rfl) (by simp)] | rw [mwp_aStore_map (by simp (disch := first | omega | decide) only [go_sem, f0]; rfl) (by first | omega | (simp; omega)) (fun _ => rfl) rfl rfl (fun _ => rfl)] | skip
      try simp only [setAt, cellsL, cellsOf_agg, cellsOf_base, List.map_cons, List.map_nil, List.set_cons_zero, List.set_cons_succ, Nat.reduceAdd, Nat.zero_add, hG]
      exact hK _
    iterate 2 (apply aops_step (by decide) rfl; · (intro K hK; simp (disch := first | omega | decide) only [go_sem, f0]; exact hK _))
    refine aops_nil ?_
    refine AW.ret ?_
    refine ⟨.inr rfl, ?_⟩
    refine leaves_mwp2 (rs := [.cell 2 47, .tmp 3, .tmp 4]) rfl ?_
    simp (config := {failIfUnchanged := false}) [giveL, srcOne, rehome, freezeN, sub, ti47, upd, opn, aLoad, loadL, giveOne, reify, reifyL, readL, readOne, Mwp, M.bind, Mem.set, setAt, cellsL, hG, f0]
    clear hr hv hG f0
    obtain ⟨of, co, bo, ep, he, fu, ag, go⟩ := n
    all_goals (cases he <;> cases fu <;> cases go <;> simp_all [helloN, helloD, helloU, helloE, hBad, hStay, h2, hUp, h1, hDown, zn, gone, lost, rHelloN, rHelloD, rHelloU, rStay, rKeep, tickN, tickD, costN, costD, costE, costBad, rTickN, rTickD, rCostN, rCostD, chk, bad, okA, wi] <;> first | done | omega | (rw [Bool.eq_iff_iff]; simp; omega) | (split <;> simp_all <;> omega) | grind | trace_state)
  case hf =>
    intro hb
    try simp only [Bool.or_eq_true, Bool.and_eq_true, Bool.or_eq_false_iff, Bool.and_eq_false_iff, decide_eq_true_eq, decide_eq_false_iff_not] at hb
    have hbt5 := hb
    refine AW.seq ?_
    refine AW.region (cfg := cfg) ?_
    apply aops_step (by decide) rfl
    · intro K hK
      simp (disch := first | omega | decide) only [go_sem, f0, act_fieldAddr_t fo47_4, List.map]
      first | rw [mwp_fieldAddr_b (by simp (disch := first | omega | decide) only [go_sem, f0]; rfl)] | skip
      exact hK _
    apply aops_step (by decide) rfl
    · intro K hK
      simp (disch := first | omega | decide) only [go_sem, f0, act_load_t ti4, List.map]
      first | rw [mwp_load_i1 (by rfl)] | rw [mwp_load_g1 (by first | (rw [hG]; rfl) | rfl) (by rfl)] | rw [mwp_load_gs (by first | (rw [hG]; rfl) | rfl) (by simp)] | rw [mwp_load_bs (by simp (disch := first | omega | decide) only [go_sem, f0]; rfl) (by simp [setAt])] | rw [mwp_load_b1 (by simp (disch := first | omega | decide) only [go_sem, f0]; rfl) (by rfl)] | rw [mwp_aLoad_map (by simp (disch := first | omega | decide) only [go_sem, f0]; rfl) (by first | omega | (simp; omega)) (fun _ => rfl)] | rw [mwp_aLoad_e1 (by simp (disch := first | omega | decide) only [go_sem, f0]; rfl) (by simp) rfl] | skip
      exact hK _
    iterate 2 (apply aops_step (by decide) rfl; · (intro K hK; simp (disch := first | omega | decide) only [go_sem, f0]; exact hK _))
    refine aops_nil ?_
    apply AW.cond
    · simp (disch := first | omega | decide) only [go_sem, f0]; rfl
    case ht =>
      intro hb
      try simp only [Bool.or_eq_true, Bool.and_eq_true, Bool.or_eq_false_iff, Bool.and_eq_false_iff, decide_eq_true_eq, decide_eq_false_iff_not] at hb
      have hbt10 := hb
      refine AW.seq ?_
      refine AW.region (cfg := cfg) ?_
      apply aops_step (by decide) rfl
      · intro K hK
        simp (disch := first | omega | decide) only [go_sem, f0, act_load_t ti47, List.map]
        first | rw [mwp_load_i1 (by rfl)] | rw [mwp_load_g1 (by first | (rw [hG]; rfl) | rfl) (by rfl)] | rw [mwp_load_gs (by first | (rw [hG]; rfl) | rfl) (by simp)] | rw [mwp_load_bs (by simp (disch := first | omega | decide) only [go_sem, f0]; rfl) (by simp [setAt])] | rw [mwp_load_b1 (by simp (disch := first | omega | decide) only [go_sem, f0]; rfl) (by rfl)] | rw [mwp_aLoad_map (by simp (disch := first | omega | decide) only [go_sem, f0]; rfl) (by first | omega | (simp; omega)) (fun _ => rfl)] | rw [mwp_aLoad_e1 (by simp (disch := first | omega | decide) only [go_sem, f0]; rfl) (by simp) rfl] | skip
        exact hK _
      apply aops_step0 rfl
      · intro K hK
        simp (disch := first | omega | decide) only [go_sem, f0, act_store_t ti47, List.map]
        first | rw [mwp_store_g1 (by first | (rw [hG]; rfl) | rfl) (by simp) rfl rfl] | rw [mwp_store_c (by simp (disch := first | omega | decide) only [go_sem, f0]; rfl) (by rfl) (by rfl) (by rfl) (by simp)] | rw [mwp_aStore_map (by simp (disch := first | omega | decide) only [go_sem, f0]; rfl) (by first | omega | (simp; omega)) (fun _ => rfl) rfl rfl (fun _ => rfl)] | skip
        try simp only [setAt, cellsL, cellsOf_agg, cellsOf_base, List.map_cons, List.map_nil, List.set_cons_zero, List.set_cons_succ, Nat.reduceAdd, Nat.zero_add, hG]
        exact hK _
      iterate 2 (apply aops_step (by decide) rfl; · (intro K hK; simp (disch := first | omega | decide) only [go_sem, f0]; exact hK _))
      refine aops_nil ?_
      refine AW.ret ?_
      refine ⟨.inr rfl, ?_⟩
      refine leaves_mwp2 (rs := [.cell 2 47, .tmp 3, .tmp 4]) rfl ?_
      simp (config := {failIfUnchanged := false}) [giveL, srcOne, rehome, freezeN, sub, ti47, upd, opn, aLoad, loadL, giveOne, reify, reifyL, readL, readOne, Mwp, M.bind, Mem.set, setAt, cellsL, hG, f0]
      clear hr hv hG f0
      obtain ⟨of, co, bo, ep, he, fu, ag, go⟩ := n
      all_goals (cases he <;> cases fu <;> cases go <;> simp_all [helloN, helloD, helloU, helloE, hBad, hStay, h2, hUp, h1, hDown, zn, gone, lost, rHelloN, rHelloD, rHelloU, rStay, rKeep, tickN, tickD, costN, costD, costE, costBad, rTickN, rTickD, rCostN, rCostD, chk, bad, okA, wi] <;> first | done | omega | (rw [Bool.eq_iff_iff]; simp; omega) | (split <;> simp_all <;> omega) | grind | trace_state)
    case hf =>
      intro hb
      try simp only [Bool.or_eq_true, Bool.and_eq_true, Bool.or_eq_false_iff, Bool.and_eq_false_iff, decide_eq_true_eq, decide_eq_false_iff_not] at hb
      have hbt10 := hb
      refine AW.seq ?_
      refine AW.region (cfg := cfg) ?_
      apply aops_step (by decide) rfl
      · intro K hK
        simp (disch := first | omega | decide) only [go_sem, f0, act_fieldAddr_t fo47_6, List.map]
        first | rw [mwp_fieldAddr_b (by simp (disch := first | omega | decide) only [go_sem, f0]; rfl)] | skip
        exact hK _
      apply aops_step (by decide) rfl
      · intro K hK
        simp (disch := first | omega | decide) only [go_sem, f0, act_load_t ti3, List.map]
        first | rw [mwp_load_i1 (by rfl)] | rw [mwp_load_g1 (by first | (rw [hG]; rfl) | rfl) (by rfl)] | rw [mwp_load_gs (by first | (rw [hG]; rfl) | rfl) (by simp)] | rw [mwp_load_bs (by simp (disch := first | omega | decide) only [go_sem, f0]; rfl) (by simp [setAt])] | rw [mwp_load_b1 (by simp (disch := first | omega | decide) only [go_sem, f0]; rfl) (by rfl)] | rw [mwp_aLoad_map (by simp (disch := first | omega | decide) only [go_sem, f0]; rfl) (by first | omega | (simp; omega)) (fun _ => rfl)] | rw [mwp_aLoad_e1 (by simp (disch := first | omega | decide) only [go_sem, f0]; rfl) (by simp) rfl] | skip
        exact hK _
      iterate 2 (apply aops_step (by decide) rfl; · (intro K hK; simp (disch := first | omega | decide) only [go_sem, f0]; exact hK _))
      refine aops_nil ?_
      apply AW.cond
      · simp (disch := first | omega | decide) only [go_sem, f0]; rfl
      case ht =>
        intro hb
        try simp only [Bool.or_eq_true, Bool.and_eq_true, Bool.or_eq_false_iff, Bool.and_eq_false_iff, decide_eq_true_eq, decide_eq_false_iff_not] at hb
        have hbt15 := hb
        refine AW.seq ?_
        refine AW.draw (cfg := cfg) (by kernel_rfl) (by kernel_rfl) (by kernel_rfl) ?_
        apply adraw_step rfl
        · intro K hK
          simp (disch := first | omega | decide) only [go_sem, f0, act_load_t ti47, List.map]
          first | rw [mwp_load_i1 (by rfl)] | rw [mwp_load_g1 (by first | (rw [hG]; rfl) | rfl) (by rfl)] | rw [mwp_load_gs (by first | (rw [hG]; rfl) | rfl) (by simp)] | rw [mwp_load_bs (by simp (disch := first | omega | decide) only [go_sem, f0]; rfl) (by simp [setAt])] | rw [mwp_load_b1 (by simp (disch := first | omega | decide) only [go_sem, f0]; rfl) (by rfl)] | rw [mwp_aLoad_map (by simp (disch := first | omega | decide) only [go_sem, f0]; rfl) (by first | omega | (simp; omega)) (fun _ => rfl)] | rw [mwp_aLoad_e1 (by simp (disch := first | omega | decide) only [go_sem, f0]; rfl) (by simp) rfl] | skip
          exact hK
        apply adraw_step rfl
        · intro K hK
          simp (disch := first | omega | decide) only [go_sem, f0, act_call, List.map]
          apply mwp_call_r rfl rfl rfl
          · intro Q hQ
            simp (disch := first | omega | decide) only [go_sem, f0, peekL, reifyL_nil, reifyL_cons, reify_v]
            first | exact hQ | ((first | rw [peek_own (by simp (disch := first | omega | decide) only [go_sem, f0, peekL]; rfl)] | rw [mwp_reify_own (by simp (disch := first | omega | decide) only [go_sem, f0, peekL]; rfl)]); exact hQ) | ((first | rw [peek_own (by simp (disch := first | omega | decide) only [go_sem, f0, peekL]; rfl)] | rw [mwp_reify_own (by simp (disch := first | omega | decide) only [go_sem, f0, peekL]; rfl)]); simp (disch := first | omega | decide) only [go_sem, f0, peekL]; (first | rw [peek_own (by simp (disch := first | omega | decide) only [go_sem, f0, peekL]; rfl)] | rw [mwp_reify_own (by simp (disch := first | omega | decide) only [go_sem, f0, peekL]; rfl)]); exact hQ) | ((first | rw [peek_own (by simp (disch := first | omega | decide) only [go_sem, f0, peekL]; rfl)] | rw [mwp_reify_own (by simp (disch := first | omega | decide) only [go_sem, f0, peekL]; rfl)]); simp (disch := first | omega | decide) only [go_sem, f0, peekL]; exact hQ)
          · exact good_lost _
          · simp [-List.map_take, -List.map_drop, noPtrL, noPtr, noPtrL_bsl, noPtrL_map, sub]
          · simp (disch := first | omega | decide) only [go_sem, f0]
            exact hK
        apply adraw_step rfl
        · intro K hK
          simp (disch := first | omega | decide) only [go_sem, f0, act_fieldAddr_t fo47_5, List.map]
          first | rw [mwp_fieldAddr_b (by simp (disch := first | omega | decide) only [go_sem, f0]; rfl)] | skip
          exact hK
        apply adraw_step rfl
        · intro K hK
          simp (disch := first | omega | decide) only [go_sem, f0, act_load_t ti4, List.map]
          first | rw [mwp_load_i1 (by rfl)] | rw [mwp_load_g1 (by first | (rw [hG]; rfl) | rfl) (by rfl)] | rw [mwp_load_gs (by first | (rw [hG]; rfl) | rfl) (by simp)] | rw [mwp_load_bs (by simp (disch := first | omega | decide) only [go_sem, f0]; rfl) (by simp [setAt])] | rw [mwp_load_b1 (by simp (disch := first | omega | decide) only [go_sem, f0]; rfl) (by rfl)] | rw [mwp_aLoad_map (by simp (disch := first | omega | decide) only [go_sem, f0]; rfl) (by first | omega | (simp; omega)) (fun _ => rfl)] | rw [mwp_aLoad_e1 (by simp (disch := first | omega | decide) only [go_sem, f0]; rfl) (by simp) rfl] | skip
          exact hK
        apply adraw_step0 rfl
        · intro K hK
          simp (disch := first | omega | decide) only [go_sem, f0, act_store_t ti47, List.map]
          first | rw [mwp_store_g1 (by first | (rw [hG]; rfl) | rfl) (by simp) rfl rfl] | rw [mwp_store_c (by simp (disch := first | omega | decide) only [go_sem, f0]; rfl) (by rfl) (by rfl) (by rfl) (by simp)] | rw [mwp_aStore_map (by simp (disch := first | omega | decide) only [go_sem, f0]; rfl) (by first | omega | (simp; omega)) (fun _ => rfl) rfl rfl (fun _ => rfl)] | skip
          try simp only [setAt, cellsL, cellsOf_agg, cellsOf_base, List.map_cons, List.map_nil, List.set_cons_zero, List.set_cons_succ, Nat.reduceAdd, Nat.zero_add, hG]
          exact hK
        iterate 2 (apply adraw_step rfl; · (intro K hK; simp (disch := first | omega | decide) only [go_sem, f0]; exact hK))
        refine adraw_nil (by kernel_rfl) ?_
        refine AW.ret ?_
        refine ⟨.inr rfl, ?_⟩
        refine leaves_mwp2 (rs := [.cell 2 47, .tmp 3, .tmp 4]) rfl ?_
        simp (config := {failIfUnchanged := false}) [giveL, srcOne, rehome, freezeN, sub, ti47, upd, opn, aLoad, loadL, giveOne, reify, reifyL, readL, readOne, Mwp, M.bind, Mem.set, setAt, cellsL, hG, f0]
        clear hr hv hG f0
        obtain ⟨of, co, bo, ep, he, fu, ag, go⟩ := n
        all_goals (cases he <;> cases fu <;> cases go <;> simp_all [helloN, helloD, helloU, helloE, hBad, hStay, h2, hUp, h1, hDown, zn, gone, lost, rHelloN, rHelloD, rHelloU, rStay, rKeep, tickN, tickD, costN, costD, costE, costBad, rTickN, rTickD, rCostN, rCostD, chk, bad, okA, wi] <;> first | done | omega | (rw [Bool.eq_iff_iff]; simp; omega) | (split <;> simp_all <;> omega) | grind | trace_state)
      case hf =>
        intro hb
        try simp only [Bool.or_eq_true, Bool.and_eq_true, Bool.or_eq_false_iff, Bool.and_eq_false_iff, decide_eq_true_eq, decide_eq_false_iff_not] at hb
        have hbt15 := hb
        refine AW.skip ?_
        refine AW.seq ?_
        have hmr := okA_range (n := n) (chk_0 (by simpa using hbt5))
        refine AW.region (cfg := cfg) ?_
        apply aops_step (by decide) rfl
        · intro K hK
          simp (disch := first | omega | decide) only [go_sem, f0, act_fieldAddr_t fo47_6, List.map]
          first | rw [mwp_fieldAddr_b (by simp (disch := first | omega | decide) only [go_sem, f0]; rfl)] | skip
          exact hK _
        apply aops_step (by decide) rfl
        · intro K hK
          simp (disch := first | omega | decide) only [go_sem, f0, act_load_t ti3, List.map]
          first | rw [mwp_load_i1 (by rfl)] | rw [mwp_load_g1 (by first | (rw [hG]; rfl) | rfl) (by rfl)] | rw [mwp_load_gs (by first | (rw [hG]; rfl) | rfl) (by simp)] | rw [mwp_load_bs (by simp (disch := first | omega | decide) only [go_sem, f0]; rfl) (by simp [setAt])] | rw [mwp_load_b1 (by simp (disch := first | omega | decide) only [go_sem, f0]; rfl) (by rfl)] | rw [mwp_aLoad_map (by simp (disch := first | omega | decide) only [go_sem, f0]; rfl) (by first | omega | (simp; omega)) (fun _ => rfl)] | rw [mwp_aLoad_e1 (by simp (disch := first | omega | decide) only [go_sem, f0]; rfl) (by simp) rfl] | skip
          exact hK _
        iterate 1 (apply aops_step (by decide) rfl; · (intro K hK; simp (disch := first | omega | decide) only [go_sem, f0]; exact hK _))
        apply aops_step (by decide) rfl
        · intro K hK
          simp (disch := first | omega | decide) only [go_sem, f0, act_fieldAddr_t fo47_6, List.map]
          first | rw [mwp_fieldAddr_b (by simp (disch := first | omega | decide) only [go_sem, f0]; rfl)] | skip
          exact hK _
        apply aops_step0 rfl
        · intro K hK
          simp (disch := first | omega | decide) only [go_sem, f0, act_store_t ti3, List.map]
          first | rw [mwp_store_g1 (by first | (rw [hG]; rfl) | rfl) (by simp) rfl rfl] | rw [mwp_store_c (by simp (disch := first | omega | decide) only [go_sem, f0]; rfl) (by rfl) (by rfl) (by rfl) (by simp)] | rw [mwp_aStore_map (by simp (disch := first | omega | decide) only [go_sem, f0]; rfl) (by first | omega | (simp; omega)) (fun _ => rfl) rfl rfl (fun _ => rfl)] | skip
          try simp only [setAt, cellsL, cellsOf_agg, cellsOf_base, List.map_cons, List.map_nil, List.set_cons_zero, List.set_cons_succ, Nat.reduceAdd, Nat.zero_add, hG]
          exact hK _
        refine aops_nil ?_
        refine AW.seq ?_
        refine AW.region (cfg := cfg) ?_
        apply aops_step (by decide) rfl
        · intro K hK
          simp (disch := first | omega | decide) only [go_sem, f0, act_load_t ti47, List.map]
          first | rw [mwp_load_i1 (by rfl)] | rw [mwp_load_g1 (by first | (rw [hG]; rfl) | rfl) (by rfl)] | rw [mwp_load_gs (by first | (rw [hG]; rfl) | rfl) (by simp)] | rw [mwp_load_bs (by simp (disch := first | omega | decide) only [go_sem, f0]; rfl) (by simp [setAt])] | rw [mwp_load_b1 (by simp (disch := first | omega | decide) only [go_sem, f0]; rfl) (by rfl)] | rw [mwp_aLoad_map (by simp (disch := first | omega | decide) only [go_sem, f0]; rfl) (by first | omega | (simp; omega)) (fun _ => rfl)] | rw [mwp_aLoad_e1 (by simp (disch := first | omega | decide) only [go_sem, f0]; rfl) (by simp) rfl] | skip
          exact hK _
        apply aops_step0 rfl
        · intro K hK
          simp (disch := first | omega | decide) only [go_sem, f0, act_store_t ti47, List.map]
          first | rw [mwp_store_g1 (by first | (rw [hG]; rfl) | rfl) (by simp) rfl rfl] | rw [mwp_store_c (by simp (disch := first | omega | decide) only [go_sem, f0]; rfl) (by rfl) (by rfl) (by rfl) (by simp)] | rw [mwp_aStore_map (by simp (disch := first | omega | decide) only [go_sem, f0]; rfl) (by first | omega | (simp; omega)) (fun _ => rfl) rfl rfl (fun _ => rfl)] | skip
          try simp only [setAt, cellsL, cellsOf_agg, cellsOf_base, List.map_cons, List.map_nil, List.set_cons_zero, List.set_cons_succ, Nat.reduceAdd, Nat.zero_add, hG]
          exact hK _
        iterate 2 (apply aops_step (by decide) rfl; · (intro K hK; simp (disch := first | omega | decide) only [go_sem, f0]; exact hK _))
        refine aops_nil ?_
        refine AW.ret ?_
        refine ⟨.inr rfl, ?_⟩
        refine leaves_mwp2 (rs := [.cell 2 47, .tmp 3, .tmp 4]) rfl ?_
        simp (config := {failIfUnchanged := false}) [giveL, srcOne, rehome, freezeN, sub, ti47, upd, opn, aLoad, loadL, giveOne, reify, reifyL, readL, readOne, Mwp, M.bind, Mem.set, setAt, cellsL, hG, f0]
        clear hr hv hG f0
        obtain ⟨of, co, bo, ep, he, fu, ag, go⟩ := n
        all_goals (cases he <;> cases fu <;> cases go <;> simp_all [helloN, helloD, helloU, helloE, hBad, hStay, h2, hUp, h1, hDown, zn, gone, lost, rHelloN, rHelloD, rHelloU, rStay, rKeep, tickN, tickD, costN, costD, costE, costBad, rTickN, rTickD, rCostN, rCostD, chk, bad, okA, wi] <;> first | done | omega | (rw [Bool.eq_iff_iff]; simp; omega) | (split <;> simp_all <;> omega) | grind | trace_state)

set_option maxHeartbeats 4000000 in
set_option maxRecDepth 100000 in
theorem good_Cost (n : Near) (c : Int) : Good Try.prog 41 [(.agg [i64 (n).of, i64 (n).co, i64 (n).bo, i64 (n).ep, .b (n).he, .b (n).fu, i64 (n).ag, .b (n).go], false), (i64 c, false)] [] [(.agg [i64 (costN n c).of, i64 (costN n c).co, i64 (costN n c).bo, i64 (costN n c).ep, .b (costN n c).he, .b (costN n c).fu, i64 (costN n c).ag, .b (costN n c).go], false), (.b (costD n c), false), (i64 (costE n c), false)] [] := by
  refine good_of_body2 27 Try.func41 rfl rfl rfl (by simp) ?_
  intro s m ha hr hv hG
  have f0 : s 0 = .v (.agg [i64 (n).of, i64 (n).co, i64 (n).bo, i64 (n).ep, .b (n).he, .b (n).fu, i64 (n).ag, .b (n).go]) := ha 0 _ rfl
  have f1 : s 1 = .v (i64 c) := ha 1 _ rfl
  clear ha
  refine AW.seq ?_
  refine AW.region (cfg := cfg) ?_
  apply aops_step (by decide) rfl
  · intro K hK
    simp (disch := first | omega | decide) only [go_sem, f0, f1, act_box_t ti47, List.map]
    rw [settleL_vish _ _ (by rfl)]
    simp (disch := first | omega | decide) only [go_sem, f0, f1, cellsL, List.map, List.length_cons, List.length_nil, Nat.reduceAdd, if_true]
    exact hK _
  apply aops_step (by decide) rfl
  · intro K hK
    simp (disch := first | omega | decide) only [go_sem, f0, f1, act_alloc_t ti47, List.map]
    exact hK _
  iterate 2 (apply aops_step (by decide) rfl; · (intro K hK; simp (disch := first | omega | decide) only [go_sem, f0, f1]; exact hK _))
  refine aops_nil ?_
  refine AW.seq ?_
  refine AW.seq ?_
  refine AW.region (cfg := cfg) ?_
  apply aops_step (by decide) rfl
  · intro K hK
    simp (disch := first | omega | decide) only [go_sem, f0, f1, act_load_t ti47, List.map]
    first | rw [mwp_load_i1 (by rfl)] | rw [mwp_load_g1 (by first | (rw [hG]; rfl) | rfl) (by rfl)] | rw [mwp_load_gs (by first | (rw [hG]; rfl) | rfl) (by simp)] | rw [mwp_load_bs (by simp (disch := first | omega | decide) only [go_sem, f0, f1]; rfl) (by simp [setAt])] | rw [mwp_load_b1 (by simp (disch := first | omega | decide) only [go_sem, f0, f1]; rfl) (by rfl)] | rw [mwp_aLoad_map (by simp (disch := first | omega | decide) only [go_sem, f0, f1]; rfl) (by first | omega | (simp; omega)) (fun _ => rfl)] | rw [mwp_aLoad_e1 (by simp (disch := first | omega | decide) only [go_sem, f0, f1]; rfl) (by simp) rfl] | skip
    exact hK _
  apply aops_step (by decide) rfl
  · intro K hK
    simp (disch := first | omega | decide) only [go_sem, f0, f1, act_call, List.map]
    apply mwp_call_s rfl rfl rfl
    · intro Q hQ
      simp (disch := first | omega | decide) only [go_sem, f0, f1, peekL, reifyL_nil, reifyL_cons, reify_v]
      first | exact hQ | ((first | rw [peek_own (by simp (disch := first | omega | decide) only [go_sem, f0, f1, peekL]; rfl)] | rw [mwp_reify_own (by simp (disch := first | omega | decide) only [go_sem, f0, f1, peekL]; rfl)]); exact hQ) | ((first | rw [peek_own (by simp (disch := first | omega | decide) only [go_sem, f0, f1, peekL]; rfl)] | rw [mwp_reify_own (by simp (disch := first | omega | decide) only [go_sem, f0, f1, peekL]; rfl)]); simp (disch := first | omega | decide) only [go_sem, f0, f1, peekL]; (first | rw [peek_own (by simp (disch := first | omega | decide) only [go_sem, f0, f1, peekL]; rfl)] | rw [mwp_reify_own (by simp (disch := first | omega | decide) only [go_sem, f0, f1, peekL]; rfl)]); exact hQ) | ((first | rw [peek_own (by simp (disch := first | omega | decide) only [go_sem, f0, f1, peekL]; rfl)] | rw [mwp_reify_own (by simp (disch := first | omega | decide) only [go_sem, f0, f1, peekL]; rfl)]); simp (disch := first | omega | decide) only [go_sem, f0, f1, peekL]; exact hQ)
    · exact good_Check _
    · simp [-List.map_take, -List.map_drop, noPtrL, noPtr, noPtrL_bsl, noPtrL_map, sub]
    · rfl
    · exact hK _
  iterate 2 (apply aops_step (by decide) rfl; · (intro K hK; simp (disch := first | omega | decide) only [go_sem, f0, f1]; exact hK _))
  apply aops_merge' (by decide) (by first | exact want_of (d := 11) rfl (by simp (disch := first | omega | decide) only [go_sem, f0, f1, opn_cond]; rfl) | exact want_of_cond (d := 11) rfl (by simp (disch := first | omega | decide) only [go_sem, f0, f1, opn_cond]; rfl))
  · intro hc K hK
    have hc2 := hc
    simp only [beq_iff_eq, decide_eq_true_eq, decide_eq_false_iff_not, Bool.or_eq_true, Bool.and_eq_true, Bool.or_eq_false_iff, Bool.and_eq_false_iff] at hc2
    simp (disch := first | omega | decide) only [go_sem, f0, f1, opn_cond, hc, if_true]
    exact hK _
  apply aops_merge' (by decide) (by first | exact want_of (d := 11) rfl (by simp (disch := first | omega | decide) only [go_sem, f0, f1, opn_cond]; rfl) | exact want_of_cond (d := 11) rfl (by simp (disch := first | omega | decide) only [go_sem, f0, f1, opn_cond]; rfl))
  · intro hc K hK
    have hc2 := hc
    simp only [beq_iff_eq, decide_eq_true_eq, decide_eq_false_iff_not, Bool.or_eq_true, Bool.and_eq_true, Bool.or_eq_false_iff, Bool.and_eq_false_iff] at hc2
    simp (disch := first | omega | decide) only [go_sem, f0, f1, opn_cond, hc, if_true, act_call, List.map]
    apply mwp_call_s rfl rfl rfl
    · intro Q hQ
      simp (disch := first | omega | decide) only [go_sem, f0, f1, opn_cond, hc, if_true, peekL, reifyL_nil, reifyL_cons, reify_v]
      first | exact hQ | ((first | rw [peek_own (by simp (disch := first | omega | decide) only [go_sem, f0, f1, peekL]; rfl)] | rw [mwp_reify_own (by simp (disch := first | omega | decide) only [go_sem, f0, f1, peekL]; rfl)]); exact hQ) | ((first | rw [peek_own (by simp (disch := first | omega | decide) only [go_sem, f0, f1, peekL]; rfl)] | rw [mwp_reify_own (by simp (disch := first | omega | decide) only [go_sem, f0, f1, peekL]; rfl)]); simp (disch := first | omega | decide) only [go_sem, f0, f1, peekL]; (first | rw [peek_own (by simp (disch := first | omega | decide) only [go_sem, f0, f1, peekL]; rfl)] | rw [mwp_reify_own (by simp (disch := first | omega | decide) only [go_sem, f0, f1, peekL]; rfl)]); exact hQ) | ((first | rw [peek_own (by simp (disch := first | omega | decide) only [go_sem, f0, f1, peekL]; rfl)] | rw [mwp_reify_own (by simp (disch := first | omega | decide) only [go_sem, f0, f1, peekL]; rfl)]); simp (disch := first | omega | decide) only [go_sem, f0, f1, peekL]; exact hQ)
    · exact good_within _ _ _
    · simp [-List.map_take, -List.map_drop, noPtrL, noPtr, noPtrL_bsl, noPtrL_map, sub]
    · rfl
    · exact hK _
  apply aops_merge' (by decide) (by first | exact want_of (d := 11) rfl (by simp (disch := first | omega | decide) only [go_sem, f0, f1, opn_cond]; rfl) | exact want_of_cond (d := 11) rfl (by simp (disch := first | omega | decide) only [go_sem, f0, f1, opn_cond]; rfl))
  · intro hc K hK
    have hc2 := hc
    simp only [beq_iff_eq, decide_eq_true_eq, decide_eq_false_iff_not, Bool.or_eq_true, Bool.and_eq_true, Bool.or_eq_false_iff, Bool.and_eq_false_iff] at hc2
    simp (disch := first | omega | decide) only [go_sem, f0, f1, opn_cond, hc, if_true]
    exact hK _
  iterate 1 (apply aops_step (by decide) rfl; · (intro K hK; simp (disch := first | omega | decide) only [go_sem, f0, f1]; exact hK _))
  refine aops_nil ?_
  apply AW.cond
  · simp (disch := first | omega | decide) only [go_sem, f0, f1]; rfl
  case ht =>
    intro hb
    try simp only [Bool.or_eq_true, Bool.and_eq_true, Bool.or_eq_false_iff, Bool.and_eq_false_iff, decide_eq_true_eq, decide_eq_false_iff_not] at hb
    have hbt15 := hb
    refine AW.seq ?_
    refine AW.region (cfg := cfg) ?_
    apply aops_step (by decide) rfl
    · intro K hK
      simp (disch := first | omega | decide) only [go_sem, f0, f1, act_build_t ti47 pl47, List.map]
      simp [-List.map_take, -List.map_drop, fillL, okOne, cellishAV, Value.oneCell', cellsL, cellsOf, setAt, M.bind, Mwp]
      exact hK _
    apply aops_step0 rfl
    · intro K hK
      simp (disch := first | omega | decide) only [go_sem, f0, f1, act_store_t ti47, List.map]
      first | rw [mwp_store_g1 (by first | (rw [hG]; rfl) | rfl) (by simp) rfl rfl] | rw [mwp_store_c (by simp (disch := first | omega | decide) only [go_sem, f0, f1]; rfl) (by rfl) (by rfl) (by rfl) (by simp)] | rw [mwp_aStore_map (by simp (disch := first | omega | decide) only [go_sem, f0, f1]; rfl) (by first | omega | (simp; omega)) (fun _ => rfl) rfl rfl (fun _ => rfl)] | skip
      try simp only [setAt, cellsL, cellsOf_agg, cellsOf_base, List.map_cons, List.map_nil, List.set_cons_zero, List.set_cons_succ, Nat.reduceAdd, Nat.zero_add, hG]
      exact hK _
    iterate 2 (apply aops_step (by decide) rfl; · (intro K hK; simp (disch := first | omega | decide) only [go_sem, f0, f1]; exact hK _))
    refine aops_nil ?_
    refine AW.ret ?_
    refine ⟨.inr rfl, ?_⟩
    refine leaves_mwp2 (rs := [.cell 4 47, .tmp 5, .tmp 6]) rfl ?_
    simp (config := {failIfUnchanged := false}) [giveL, srcOne, rehome, freezeN, sub, ti47, upd, opn, aLoad, loadL, giveOne, reify, reifyL, readL, readOne, Mwp, M.bind, Mem.set, setAt, cellsL, hG, f0, f1]
    clear hr hv hG f0
    obtain ⟨of, co, bo, ep, he, fu, ag, go⟩ := n
    all_goals (cases he <;> cases fu <;> cases go <;> simp_all [helloN, helloD, helloU, helloE, hBad, hStay, h2, hUp, h1, hDown, zn, gone, lost, rHelloN, rHelloD, rHelloU, rStay, rKeep, tickN, tickD, costN, costD, costE, costBad, rTickN, rTickD, rCostN, rCostD, chk, bad, okA, wi] <;> first | done | omega | (rw [Bool.eq_iff_iff]; simp; omega) | (split <;> simp_all <;> omega) | grind | trace_state)
  case hf =>
    intro hb
    try simp only [Bool.or_eq_true, Bool.and_eq_true, Bool.or_eq_false_iff, Bool.and_eq_false_iff, decide_eq_true_eq, decide_eq_false_iff_not] at hb
    have hbt15 := hb
    refine AW.skip ?_
    refine AW.seq ?_
    refine AW.region (cfg := cfg) ?_
    iterate 1 (apply aops_step (by decide) rfl; · (intro K hK; simp (disch := first | omega | decide) only [go_sem, f0, f1]; exact hK _))
    refine aops_nil ?_
    refine AW.seq ?_
    refine AW.seq ?_
    refine AW.region (cfg := cfg) ?_
    iterate 2 (apply aops_step (by decide) rfl; · (intro K hK; simp (disch := first | omega | decide) only [go_sem, f0, f1]; exact hK _))
    refine aops_nil ?_
    apply AW.cond
    · simp (disch := first | omega | decide) only [go_sem, f0, f1]; rfl
    case ht =>
      intro hb
      try simp only [Bool.or_eq_true, Bool.and_eq_true, Bool.or_eq_false_iff, Bool.and_eq_false_iff, decide_eq_true_eq, decide_eq_false_iff_not] at hb
      have hbt18 := hb
      refine AW.draw (cfg := cfg) (by kernel_rfl) (by kernel_rfl) (by kernel_rfl) ?_
      apply adraw_step rfl
      · intro K hK
        simp (disch := first | omega | decide) only [go_sem, f0, f1, act_fieldAddr_t fo47_5, List.map]
        first | rw [mwp_fieldAddr_b (by simp (disch := first | omega | decide) only [go_sem, f0, f1]; rfl)] | skip
        exact hK
      apply adraw_step rfl
      · intro K hK
        simp (disch := first | omega | decide) only [go_sem, f0, f1, act_load_t ti4, List.map]
        first | rw [mwp_load_i1 (by rfl)] | rw [mwp_load_g1 (by first | (rw [hG]; rfl) | rfl) (by rfl)] | rw [mwp_load_gs (by first | (rw [hG]; rfl) | rfl) (by simp)] | rw [mwp_load_bs (by simp (disch := first | omega | decide) only [go_sem, f0, f1]; rfl) (by simp [setAt])] | rw [mwp_load_b1 (by simp (disch := first | omega | decide) only [go_sem, f0, f1]; rfl) (by rfl)] | rw [mwp_aLoad_map (by simp (disch := first | omega | decide) only [go_sem, f0, f1]; rfl) (by first | omega | (simp; omega)) (fun _ => rfl)] | rw [mwp_aLoad_e1 (by simp (disch := first | omega | decide) only [go_sem, f0, f1]; rfl) (by simp) rfl] | skip
        exact hK
      apply adraw_step rfl
      · intro K hK
        simp (disch := first | omega | decide) only [go_sem, f0, f1, act_load_t ti47, List.map]
        first | rw [mwp_load_i1 (by rfl)] | rw [mwp_load_g1 (by first | (rw [hG]; rfl) | rfl) (by rfl)] | rw [mwp_load_gs (by first | (rw [hG]; rfl) | rfl) (by simp)] | rw [mwp_load_bs (by simp (disch := first | omega | decide) only [go_sem, f0, f1]; rfl) (by simp [setAt])] | rw [mwp_load_b1 (by simp (disch := first | omega | decide) only [go_sem, f0, f1]; rfl) (by rfl)] | rw [mwp_aLoad_map (by simp (disch := first | omega | decide) only [go_sem, f0, f1]; rfl) (by first | omega | (simp; omega)) (fun _ => rfl)] | rw [mwp_aLoad_e1 (by simp (disch := first | omega | decide) only [go_sem, f0, f1]; rfl) (by simp) rfl] | skip
        exact hK
      apply adraw_step rfl
      · intro K hK
        simp (disch := first | omega | decide) only [go_sem, f0, f1, act_call, List.map]
        apply mwp_call_r rfl rfl rfl
        · intro Q hQ
          simp (disch := first | omega | decide) only [go_sem, f0, f1, peekL, reifyL_nil, reifyL_cons, reify_v]
          first | exact hQ | ((first | rw [peek_own (by simp (disch := first | omega | decide) only [go_sem, f0, f1, peekL]; rfl)] | rw [mwp_reify_own (by simp (disch := first | omega | decide) only [go_sem, f0, f1, peekL]; rfl)]); exact hQ) | ((first | rw [peek_own (by simp (disch := first | omega | decide) only [go_sem, f0, f1, peekL]; rfl)] | rw [mwp_reify_own (by simp (disch := first | omega | decide) only [go_sem, f0, f1, peekL]; rfl)]); simp (disch := first | omega | decide) only [go_sem, f0, f1, peekL]; (first | rw [peek_own (by simp (disch := first | omega | decide) only [go_sem, f0, f1, peekL]; rfl)] | rw [mwp_reify_own (by simp (disch := first | omega | decide) only [go_sem, f0, f1, peekL]; rfl)]); exact hQ) | ((first | rw [peek_own (by simp (disch := first | omega | decide) only [go_sem, f0, f1, peekL]; rfl)] | rw [mwp_reify_own (by simp (disch := first | omega | decide) only [go_sem, f0, f1, peekL]; rfl)]); simp (disch := first | omega | decide) only [go_sem, f0, f1, peekL]; exact hQ)
        · exact good_lost _
        · simp [-List.map_take, -List.map_drop, noPtrL, noPtr, noPtrL_bsl, noPtrL_map, sub]
        · simp (disch := first | omega | decide) only [go_sem, f0, f1]
          exact hK
      iterate 1 (apply adraw_step rfl; · (intro K hK; simp (disch := first | omega | decide) only [go_sem, f0, f1]; exact hK))
      apply adraw_step0 rfl
      · intro K hK
        simp (disch := first | omega | decide) only [go_sem, f0, f1, act_store_t ti47, List.map]
        first | rw [mwp_store_g1 (by first | (rw [hG]; rfl) | rfl) (by simp) rfl rfl] | rw [mwp_store_c (by simp (disch := first | omega | decide) only [go_sem, f0, f1]; rfl) (by rfl) (by rfl) (by rfl) (by simp)] | rw [mwp_aStore_map (by simp (disch := first | omega | decide) only [go_sem, f0, f1]; rfl) (by first | omega | (simp; omega)) (fun _ => rfl) rfl rfl (fun _ => rfl)] | skip
        try simp only [setAt, cellsL, cellsOf_agg, cellsOf_base, List.map_cons, List.map_nil, List.set_cons_zero, List.set_cons_succ, Nat.reduceAdd, Nat.zero_add, hG]
        exact hK
      refine adraw_nil (by kernel_rfl) ?_
      refine AW.seq ?_
      refine AW.region (cfg := cfg) ?_
      iterate 1 (apply aops_step (by decide) rfl; · (intro K hK; simp (disch := first | omega | decide) only [go_sem, f0, f1]; exact hK _))
      apply aops_step (by decide) rfl
      · intro K hK
        simp (disch := first | omega | decide) only [go_sem, f0, f1, act_fieldAddr_t fo47_1, List.map]
        first | rw [mwp_fieldAddr_b (by simp (disch := first | omega | decide) only [go_sem, f0, f1]; rfl)] | skip
        exact hK _
      apply aops_step0 rfl
      · intro K hK
        simp (disch := first | omega | decide) only [go_sem, f0, f1, act_store_t ti3, List.map]
        first | rw [mwp_store_g1 (by first | (rw [hG]; rfl) | rfl) (by simp) rfl rfl] | rw [mwp_store_c (by simp (disch := first | omega | decide) only [go_sem, f0, f1]; rfl) (by rfl) (by rfl) (by rfl) (by simp)] | rw [mwp_aStore_map (by simp (disch := first | omega | decide) only [go_sem, f0, f1]; rfl) (by first | omega | (simp; omega)) (fun _ => rfl) rfl rfl (fun _ => rfl)] | skip
        try simp only [setAt, cellsL, cellsOf_agg, cellsOf_base, List.map_cons, List.map_nil, List.set_cons_zero, List.set_cons_succ, Nat.reduceAdd, Nat.zero_add, hG]
        exact hK _
      refine aops_nil ?_
      refine AW.seq ?_
      refine AW.region (cfg := cfg) ?_
      apply aops_step (by decide) rfl
      · intro K hK
        simp (disch := first | omega | decide) only [go_sem, f0, f1, act_load_t ti47, List.map]
        first | rw [mwp_load_i1 (by rfl)] | rw [mwp_load_g1 (by first | (rw [hG]; rfl) | rfl) (by rfl)] | rw [mwp_load_gs (by first | (rw [hG]; rfl) | rfl) (by simp)] | rw [mwp_load_bs (by simp (disch := first | omega | decide) only [go_sem, f0, f1]; rfl) (by simp [setAt])] | rw [mwp_load_b1 (by simp (disch := first | omega | decide) only [go_sem, f0, f1]; rfl) (by rfl)] | rw [mwp_aLoad_map (by simp (disch := first | omega | decide) only [go_sem, f0, f1]; rfl) (by first | omega | (simp; omega)) (fun _ => rfl)] | rw [mwp_aLoad_e1 (by simp (disch := first | omega | decide) only [go_sem, f0, f1]; rfl) (by simp) rfl] | skip
        exact hK _
      iterate 1 (apply aops_step (by decide) rfl; · (intro K hK; simp (disch := first | omega | decide) only [go_sem, f0, f1]; exact hK _))
      apply aops_step0 rfl
      · intro K hK
        simp (disch := first | omega | decide) only [go_sem, f0, f1, act_store_t ti47, List.map]
        first | rw [mwp_store_g1 (by first | (rw [hG]; rfl) | rfl) (by simp) rfl rfl] | rw [mwp_store_c (by simp (disch := first | omega | decide) only [go_sem, f0, f1]; rfl) (by rfl) (by rfl) (by rfl) (by simp)] | rw [mwp_aStore_map (by simp (disch := first | omega | decide) only [go_sem, f0, f1]; rfl) (by first | omega | (simp; omega)) (fun _ => rfl) rfl rfl (fun _ => rfl)] | skip
        try simp only [setAt, cellsL, cellsOf_agg, cellsOf_base, List.map_cons, List.map_nil, List.set_cons_zero, List.set_cons_succ, Nat.reduceAdd, Nat.zero_add, hG]
        exact hK _
      iterate 2 (apply aops_step (by decide) rfl; · (intro K hK; simp (disch := first | omega | decide) only [go_sem, f0, f1]; exact hK _))
      refine aops_nil ?_
      refine AW.ret ?_
      refine ⟨.inr rfl, ?_⟩
      refine leaves_mwp2 (rs := [.cell 4 47, .tmp 5, .tmp 6]) rfl ?_
      simp (config := {failIfUnchanged := false}) [giveL, srcOne, rehome, freezeN, sub, ti47, upd, opn, aLoad, loadL, giveOne, reify, reifyL, readL, readOne, Mwp, M.bind, Mem.set, setAt, cellsL, hG, f0, f1]
      clear hr hv hG f0
      obtain ⟨of, co, bo, ep, he, fu, ag, go⟩ := n
      all_goals (cases he <;> cases fu <;> cases go <;> simp_all [helloN, helloD, helloU, helloE, hBad, hStay, h2, hUp, h1, hDown, zn, gone, lost, rHelloN, rHelloD, rHelloU, rStay, rKeep, tickN, tickD, costN, costD, costE, costBad, rTickN, rTickD, rCostN, rCostD, chk, bad, okA, wi] <;> first | done | omega | (rw [Bool.eq_iff_iff]; simp; omega) | (split <;> simp_all <;> omega) | grind | trace_state)
    case hf =>
      intro hb
      try simp only [Bool.or_eq_true, Bool.and_eq_true, Bool.or_eq_false_iff, Bool.and_eq_false_iff, decide_eq_true_eq, decide_eq_false_iff_not] at hb
      have hbt18 := hb
      refine AW.skip ?_
      refine AW.seq ?_
      refine AW.region (cfg := cfg) ?_
      iterate 1 (apply aops_step (by decide) rfl; · (intro K hK; simp (disch := first | omega | decide) only [go_sem, f0, f1]; exact hK _))
      apply aops_step (by decide) rfl
      · intro K hK
        simp (disch := first | omega | decide) only [go_sem, f0, f1, act_fieldAddr_t fo47_1, List.map]
        first | rw [mwp_fieldAddr_b (by simp (disch := first | omega | decide) only [go_sem, f0, f1]; rfl)] | skip
        exact hK _
      apply aops_step0 rfl
      · intro K hK
        simp (disch := first | omega | decide) only [go_sem, f0, f1, act_store_t ti3, List.map]
        first | rw [mwp_store_g1 (by first | (rw [hG]; rfl) | rfl) (by simp) rfl rfl] | rw [mwp_store_c (by simp (disch := first | omega | decide) only [go_sem, f0, f1]; rfl) (by rfl) (by rfl) (by rfl) (by simp)] | rw [mwp_aStore_map (by simp (disch := first | omega | decide) only [go_sem, f0, f1]; rfl) (by first | omega | (simp; omega)) (fun _ => rfl) rfl rfl (fun _ => rfl)] | skip
        try simp only [setAt, cellsL, cellsOf_agg, cellsOf_base, List.map_cons, List.map_nil, List.set_cons_zero, List.set_cons_succ, Nat.reduceAdd, Nat.zero_add, hG]
        exact hK _
      refine aops_nil ?_
      refine AW.seq ?_
      refine AW.region (cfg := cfg) ?_
      apply aops_step (by decide) rfl
      · intro K hK
        simp (disch := first | omega | decide) only [go_sem, f0, f1, act_load_t ti47, List.map]
        first | rw [mwp_load_i1 (by rfl)] | rw [mwp_load_g1 (by first | (rw [hG]; rfl) | rfl) (by rfl)] | rw [mwp_load_gs (by first | (rw [hG]; rfl) | rfl) (by simp)] | rw [mwp_load_bs (by simp (disch := first | omega | decide) only [go_sem, f0, f1]; rfl) (by simp [setAt])] | rw [mwp_load_b1 (by simp (disch := first | omega | decide) only [go_sem, f0, f1]; rfl) (by rfl)] | rw [mwp_aLoad_map (by simp (disch := first | omega | decide) only [go_sem, f0, f1]; rfl) (by first | omega | (simp; omega)) (fun _ => rfl)] | rw [mwp_aLoad_e1 (by simp (disch := first | omega | decide) only [go_sem, f0, f1]; rfl) (by simp) rfl] | skip
        exact hK _
      iterate 1 (apply aops_step (by decide) rfl; · (intro K hK; simp (disch := first | omega | decide) only [go_sem, f0, f1]; exact hK _))
      apply aops_step0 rfl
      · intro K hK
        simp (disch := first | omega | decide) only [go_sem, f0, f1, act_store_t ti47, List.map]
        first | rw [mwp_store_g1 (by first | (rw [hG]; rfl) | rfl) (by simp) rfl rfl] | rw [mwp_store_c (by simp (disch := first | omega | decide) only [go_sem, f0, f1]; rfl) (by rfl) (by rfl) (by rfl) (by simp)] | rw [mwp_aStore_map (by simp (disch := first | omega | decide) only [go_sem, f0, f1]; rfl) (by first | omega | (simp; omega)) (fun _ => rfl) rfl rfl (fun _ => rfl)] | skip
        try simp only [setAt, cellsL, cellsOf_agg, cellsOf_base, List.map_cons, List.map_nil, List.set_cons_zero, List.set_cons_succ, Nat.reduceAdd, Nat.zero_add, hG]
        exact hK _
      iterate 2 (apply aops_step (by decide) rfl; · (intro K hK; simp (disch := first | omega | decide) only [go_sem, f0, f1]; exact hK _))
      refine aops_nil ?_
      refine AW.ret ?_
      refine ⟨.inr rfl, ?_⟩
      refine leaves_mwp2 (rs := [.cell 4 47, .tmp 5, .tmp 6]) rfl ?_
      simp (config := {failIfUnchanged := false}) [giveL, srcOne, rehome, freezeN, sub, ti47, upd, opn, aLoad, loadL, giveOne, reify, reifyL, readL, readOne, Mwp, M.bind, Mem.set, setAt, cellsL, hG, f0, f1]
      clear hr hv hG f0
      obtain ⟨of, co, bo, ep, he, fu, ag, go⟩ := n
      all_goals (cases he <;> cases fu <;> cases go <;> simp_all [helloN, helloD, helloU, helloE, hBad, hStay, h2, hUp, h1, hDown, zn, gone, lost, rHelloN, rHelloD, rHelloU, rStay, rKeep, tickN, tickD, costN, costD, costE, costBad, rTickN, rTickD, rCostN, rCostD, chk, bad, okA, wi] <;> first | done | omega | (rw [Bool.eq_iff_iff]; simp; omega) | (split <;> simp_all <;> omega) | grind | trace_state)

set_option maxHeartbeats 4000000 in
set_option maxRecDepth 100000 in
theorem good_refTick (n : Near) (hn : n.ag ≤ 4 ∧ 0 ≤ n.ag) : Good Try.prog 42 [(.agg [i64 (n).of, i64 (n).co, i64 (n).bo, i64 (n).ep, .b (n).he, .b (n).fu, i64 (n).ag, .b (n).go], false)] [] [(.agg [i64 (rTickN n).of, i64 (rTickN n).co, i64 (rTickN n).bo, i64 (rTickN n).ep, .b (rTickN n).he, .b (rTickN n).fu, i64 (rTickN n).ag, .b (rTickN n).go], false), (.b (rTickD n), false)] [] := by
  refine good_of_body2 27 Try.func42 rfl rfl rfl (by simp) ?_
  intro s m ha hr hv hG
  have f0 : s 0 = .v (.agg [i64 (n).of, i64 (n).co, i64 (n).bo, i64 (n).ep, .b (n).he, .b (n).fu, i64 (n).ag, .b (n).go]) := ha 0 _ rfl
  clear ha
  refine AW.seq ?_
  refine AW.region (cfg := cfg) ?_
  apply aops_step (by decide) rfl
  · intro K hK
    simp (disch := first | omega | decide) only [go_sem, f0, act_box_t ti47, List.map]
    rw [settleL_vish _ _ (by rfl)]
    simp (disch := first | omega | decide) only [go_sem, f0, cellsL, List.map, List.length_cons, List.length_nil, Nat.reduceAdd, if_true]
    exact hK _
  apply aops_step (by decide) rfl
  · intro K hK
    simp (disch := first | omega | decide) only [go_sem, f0, act_alloc_t ti47, List.map]
    exact hK _
  iterate 1 (apply aops_step (by decide) rfl; · (intro K hK; simp (disch := first | omega | decide) only [go_sem, f0]; exact hK _))
  refine aops_nil ?_
  refine AW.seq ?_
  refine AW.seq ?_
  refine AW.region (cfg := cfg) ?_
  apply aops_step (by decide) rfl
  · intro K hK
    simp (disch := first | omega | decide) only [go_sem, f0, act_fieldAddr_t fo47_4, List.map]
    first | rw [mwp_fieldAddr_b (by simp (disch := first | omega | decide) only [go_sem, f0]; rfl)] | skip
    exact hK _
  apply aops_step (by decide) rfl
  · intro K hK
    simp (disch := first | omega | decide) only [go_sem, f0, act_load_t ti4, List.map]
    first | rw [mwp_load_i1 (by rfl)] | rw [mwp_load_g1 (by first | (rw [hG]; rfl) | rfl) (by rfl)] | rw [mwp_load_gs (by first | (rw [hG]; rfl) | rfl) (by simp)] | rw [mwp_load_bs (by simp (disch := first | omega | decide) only [go_sem, f0]; rfl) (by simp [setAt])] | rw [mwp_load_b1 (by simp (disch := first | omega | decide) only [go_sem, f0]; rfl) (by rfl)] | rw [mwp_aLoad_map (by simp (disch := first | omega | decide) only [go_sem, f0]; rfl) (by first | omega | (simp; omega)) (fun _ => rfl)] | rw [mwp_aLoad_e1 (by simp (disch := first | omega | decide) only [go_sem, f0]; rfl) (by simp) rfl] | skip
    exact hK _
  iterate 1 (apply aops_step (by decide) rfl; · (intro K hK; simp (disch := first | omega | decide) only [go_sem, f0]; exact hK _))
  refine aops_nil ?_
  apply AW.cond
  · simp (disch := first | omega | decide) only [go_sem, f0]; rfl
  case ht =>
    intro hb
    try simp only [Bool.or_eq_true, Bool.and_eq_true, Bool.or_eq_false_iff, Bool.and_eq_false_iff, decide_eq_true_eq, decide_eq_false_iff_not] at hb
    have hbt6 := hb
    refine AW.seq ?_
    refine AW.region (cfg := cfg) ?_
    apply aops_step (by decide) rfl
    · intro K hK
      simp (disch := first | omega | decide) only [go_sem, f0, act_load_t ti47, List.map]
      first | rw [mwp_load_i1 (by rfl)] | rw [mwp_load_g1 (by first | (rw [hG]; rfl) | rfl) (by rfl)] | rw [mwp_load_gs (by first | (rw [hG]; rfl) | rfl) (by simp)] | rw [mwp_load_bs (by simp (disch := first | omega | decide) only [go_sem, f0]; rfl) (by simp [setAt])] | rw [mwp_load_b1 (by simp (disch := first | omega | decide) only [go_sem, f0]; rfl) (by rfl)] | rw [mwp_aLoad_map (by simp (disch := first | omega | decide) only [go_sem, f0]; rfl) (by first | omega | (simp; omega)) (fun _ => rfl)] | rw [mwp_aLoad_e1 (by simp (disch := first | omega | decide) only [go_sem, f0]; rfl) (by simp) rfl] | skip
      exact hK _
    apply aops_step0 rfl
    · intro K hK
      simp (disch := first | omega | decide) only [go_sem, f0, act_store_t ti47, List.map]
      first | rw [mwp_store_g1 (by first | (rw [hG]; rfl) | rfl) (by simp) rfl rfl] | rw [mwp_store_c (by simp (disch := first | omega | decide) only [go_sem, f0]; rfl) (by rfl) (by rfl) (by rfl) (by simp)] | rw [mwp_aStore_map (by simp (disch := first | omega | decide) only [go_sem, f0]; rfl) (by first | omega | (simp; omega)) (fun _ => rfl) rfl rfl (fun _ => rfl)] | skip
      try simp only [setAt, cellsL, cellsOf_agg, cellsOf_base, List.map_cons, List.map_nil, List.set_cons_zero, List.set_cons_succ, Nat.reduceAdd, Nat.zero_add, hG]
      exact hK _
    iterate 1 (apply aops_step (by decide) rfl; · (intro K hK; simp (disch := first | omega | decide) only [go_sem, f0]; exact hK _))
    refine aops_nil ?_
    refine AW.ret ?_
    refine ⟨.inr rfl, ?_⟩
    refine leaves_mwp2 (rs := [.cell 2 47, .tmp 3]) rfl ?_
    simp (config := {failIfUnchanged := false}) [giveL, srcOne, rehome, freezeN, sub, ti47, upd, opn, aLoad, loadL, giveOne, reify, reifyL, readL, readOne, Mwp, M.bind, Mem.set, setAt, cellsL, hG, f0]
    clear hr hv hG f0
    obtain ⟨of, co, bo, ep, he, fu, ag, go⟩ := n
    all_goals (cases he <;> cases fu <;> cases go <;> simp_all [helloN, helloD, helloU, helloE, hBad, hStay, h2, hUp, h1, hDown, zn, gone, lost, rHelloN, rHelloD, rHelloU, rStay, rKeep, tickN, tickD, costN, costD, costE, costBad, rTickN, rTickD, rCostN, rCostD, chk, bad, okA, wi] <;> first | done | omega | (rw [Bool.eq_iff_iff]; simp; omega) | (split <;> simp_all <;> omega) | grind | trace_state)
  case hf =>
    intro hb
    try simp only [Bool.or_eq_true, Bool.and_eq_true, Bool.or_eq_false_iff, Bool.and_eq_false_iff, decide_eq_true_eq, decide_eq_false_iff_not] at hb
    have hbt6 := hb
    refine AW.skip ?_
    refine AW.seq ?_
    refine AW.seq ?_
    refine AW.region (cfg := cfg) ?_
    apply aops_step (by decide) rfl
    · intro K hK
      simp (disch := first | omega | decide) only [go_sem, f0, act_fieldAddr_t fo47_6, List.map]
      first | rw [mwp_fieldAddr_b (by simp (disch := first | omega | decide) only [go_sem, f0]; rfl)] | skip
      exact hK _
    apply aops_step (by decide) rfl
    · intro K hK
      simp (disch := first | omega | decide) only [go_sem, f0, act_load_t ti3, List.map]
      first | rw [mwp_load_i1 (by rfl)] | rw [mwp_load_g1 (by first | (rw [hG]; rfl) | rfl) (by rfl)] | rw [mwp_load_gs (by first | (rw [hG]; rfl) | rfl) (by simp)] | rw [mwp_load_bs (by simp (disch := first | omega | decide) only [go_sem, f0]; rfl) (by simp [setAt])] | rw [mwp_load_b1 (by simp (disch := first | omega | decide) only [go_sem, f0]; rfl) (by rfl)] | rw [mwp_aLoad_map (by simp (disch := first | omega | decide) only [go_sem, f0]; rfl) (by first | omega | (simp; omega)) (fun _ => rfl)] | rw [mwp_aLoad_e1 (by simp (disch := first | omega | decide) only [go_sem, f0]; rfl) (by simp) rfl] | skip
      exact hK _
    iterate 1 (apply aops_step (by decide) rfl; · (intro K hK; simp (disch := first | omega | decide) only [go_sem, f0]; exact hK _))
    refine aops_nil ?_
    apply AW.cond
    · simp (disch := first | omega | decide) only [go_sem, f0]; rfl
    case ht =>
      intro hb
      try simp only [Bool.or_eq_true, Bool.and_eq_true, Bool.or_eq_false_iff, Bool.and_eq_false_iff, decide_eq_true_eq, decide_eq_false_iff_not] at hb
      have hbt10 := hb
      refine AW.seq ?_
      refine AW.draw (cfg := cfg) (by kernel_rfl) (by kernel_rfl) (by kernel_rfl) ?_
      apply adraw_step rfl
      · intro K hK
        simp (disch := first | omega | decide) only [go_sem, f0, act_fieldAddr_t fo47_0, List.map]
        first | rw [mwp_fieldAddr_b (by simp (disch := first | omega | decide) only [go_sem, f0]; rfl)] | skip
        exact hK
      apply adraw_step rfl
      · intro K hK
        simp (disch := first | omega | decide) only [go_sem, f0, act_load_t ti3, List.map]
        first | rw [mwp_load_i1 (by rfl)] | rw [mwp_load_g1 (by first | (rw [hG]; rfl) | rfl) (by rfl)] | rw [mwp_load_gs (by first | (rw [hG]; rfl) | rfl) (by simp)] | rw [mwp_load_bs (by simp (disch := first | omega | decide) only [go_sem, f0]; rfl) (by simp [setAt])] | rw [mwp_load_b1 (by simp (disch := first | omega | decide) only [go_sem, f0]; rfl) (by rfl)] | rw [mwp_aLoad_map (by simp (disch := first | omega | decide) only [go_sem, f0]; rfl) (by first | omega | (simp; omega)) (fun _ => rfl)] | rw [mwp_aLoad_e1 (by simp (disch := first | omega | decide) only [go_sem, f0]; rfl) (by simp) rfl] | skip
        exact hK
      apply adraw_step rfl
      · intro K hK
        simp (disch := first | omega | decide) only [go_sem, f0, act_fieldAddr_t fo47_1, List.map]
        first | rw [mwp_fieldAddr_b (by simp (disch := first | omega | decide) only [go_sem, f0]; rfl)] | skip
        exact hK
      apply adraw_step rfl
      · intro K hK
        simp (disch := first | omega | decide) only [go_sem, f0, act_load_t ti3, List.map]
        first | rw [mwp_load_i1 (by rfl)] | rw [mwp_load_g1 (by first | (rw [hG]; rfl) | rfl) (by rfl)] | rw [mwp_load_gs (by first | (rw [hG]; rfl) | rfl) (by simp)] | rw [mwp_load_bs (by simp (disch := first | omega | decide) only [go_sem, f0]; rfl) (by simp [setAt])] | rw [mwp_load_b1 (by simp (disch := first | omega | decide) only [go_sem, f0]; rfl) (by rfl)] | rw [mwp_aLoad_map (by simp (disch := first | omega | decide) only [go_sem, f0]; rfl) (by first | omega | (simp; omega)) (fun _ => rfl)] | rw [mwp_aLoad_e1 (by simp (disch := first | omega | decide) only [go_sem, f0]; rfl) (by simp) rfl] | skip
        exact hK
      apply adraw_step rfl
      · intro K hK
        simp (disch := first | omega | decide) only [go_sem, f0, act_fieldAddr_t fo47_2, List.map]
        first | rw [mwp_fieldAddr_b (by simp (disch := first | omega | decide) only [go_sem, f0]; rfl)] | skip
        exact hK
      apply adraw_step rfl
      · intro K hK
        simp (disch := first | omega | decide) only [go_sem, f0, act_load_t ti3, List.map]
        first | rw [mwp_load_i1 (by rfl)] | rw [mwp_load_g1 (by first | (rw [hG]; rfl) | rfl) (by rfl)] | rw [mwp_load_gs (by first | (rw [hG]; rfl) | rfl) (by simp)] | rw [mwp_load_bs (by simp (disch := first | omega | decide) only [go_sem, f0]; rfl) (by simp [setAt])] | rw [mwp_load_b1 (by simp (disch := first | omega | decide) only [go_sem, f0]; rfl) (by rfl)] | rw [mwp_aLoad_map (by simp (disch := first | omega | decide) only [go_sem, f0]; rfl) (by first | omega | (simp; omega)) (fun _ => rfl)] | rw [mwp_aLoad_e1 (by simp (disch := first | omega | decide) only [go_sem, f0]; rfl) (by simp) rfl] | skip
        exact hK
      apply adraw_step rfl
      · intro K hK
        simp (disch := first | omega | decide) only [go_sem, f0, act_fieldAddr_t fo47_3, List.map]
        first | rw [mwp_fieldAddr_b (by simp (disch := first | omega | decide) only [go_sem, f0]; rfl)] | skip
        exact hK
      apply adraw_step rfl
      · intro K hK
        simp (disch := first | omega | decide) only [go_sem, f0, act_load_t ti3, List.map]
        first | rw [mwp_load_i1 (by rfl)] | rw [mwp_load_g1 (by first | (rw [hG]; rfl) | rfl) (by rfl)] | rw [mwp_load_gs (by first | (rw [hG]; rfl) | rfl) (by simp)] | rw [mwp_load_bs (by simp (disch := first | omega | decide) only [go_sem, f0]; rfl) (by simp [setAt])] | rw [mwp_load_b1 (by simp (disch := first | omega | decide) only [go_sem, f0]; rfl) (by rfl)] | rw [mwp_aLoad_map (by simp (disch := first | omega | decide) only [go_sem, f0]; rfl) (by first | omega | (simp; omega)) (fun _ => rfl)] | rw [mwp_aLoad_e1 (by simp (disch := first | omega | decide) only [go_sem, f0]; rfl) (by simp) rfl] | skip
        exact hK
      apply adraw_step rfl
      · intro K hK
        simp (disch := first | omega | decide) only [go_sem, f0, act_build_t ti47 pl47, List.map]
        simp [-List.map_take, -List.map_drop, fillL, okOne, cellishAV, Value.oneCell', cellsL, cellsOf, setAt, M.bind, Mwp]
        exact hK
      apply adraw_step rfl
      · intro K hK
        simp (disch := first | omega | decide) only [go_sem, f0, act_fieldAddr_t fo47_5, List.map]
        first | rw [mwp_fieldAddr_b (by simp (disch := first | omega | decide) only [go_sem, f0]; rfl)] | skip
        exact hK
      apply adraw_step rfl
      · intro K hK
        simp (disch := first | omega | decide) only [go_sem, f0, act_load_t ti4, List.map]
        first | rw [mwp_load_i1 (by rfl)] | rw [mwp_load_g1 (by first | (rw [hG]; rfl) | rfl) (by rfl)] | rw [mwp_load_gs (by first | (rw [hG]; rfl) | rfl) (by simp)] | rw [mwp_load_bs (by simp (disch := first | omega | decide) only [go_sem, f0]; rfl) (by simp [setAt])] | rw [mwp_load_b1 (by simp (disch := first | omega | decide) only [go_sem, f0]; rfl) (by rfl)] | rw [mwp_aLoad_map (by simp (disch := first | omega | decide) only [go_sem, f0]; rfl) (by first | omega | (simp; omega)) (fun _ => rfl)] | rw [mwp_aLoad_e1 (by simp (disch := first | omega | decide) only [go_sem, f0]; rfl) (by simp) rfl] | skip
        exact hK
      apply adraw_step0 rfl
      · intro K hK
        simp (disch := first | omega | decide) only [go_sem, f0, act_store_t ti47, List.map]
        first | rw [mwp_store_g1 (by first | (rw [hG]; rfl) | rfl) (by simp) rfl rfl] | rw [mwp_store_c (by simp (disch := first | omega | decide) only [go_sem, f0]; rfl) (by rfl) (by rfl) (by rfl) (by simp)] | rw [mwp_aStore_map (by simp (disch := first | omega | decide) only [go_sem, f0]; rfl) (by first | omega | (simp; omega)) (fun _ => rfl) rfl rfl (fun _ => rfl)] | skip
        try simp only [setAt, cellsL, cellsOf_agg, cellsOf_base, List.map_cons, List.map_nil, List.set_cons_zero, List.set_cons_succ, Nat.reduceAdd, Nat.zero_add, hG]
        exact hK
      iterate 1 (apply adraw_step rfl; · (intro K hK; simp (disch := first | omega | decide) only [go_sem, f0]; exact hK))
      refine adraw_nil (by kernel_rfl) ?_
      refine AW.ret ?_
      refine ⟨.inr rfl, ?_⟩
      refine leaves_mwp2 (rs := [.cell 2 47, .tmp 3]) rfl ?_
      simp (config := {failIfUnchanged := false}) [giveL, srcOne, rehome, freezeN, sub, ti47, upd, opn, aLoad, loadL, giveOne, reify, reifyL, readL, readOne, Mwp, M.bind, Mem.set, setAt, cellsL, hG, f0]
      clear hr hv hG f0
      obtain ⟨of, co, bo, ep, he, fu, ag, go⟩ := n
      all_goals (cases he <;> cases fu <;> cases go <;> simp_all [helloN, helloD, helloU, helloE, hBad, hStay, h2, hUp, h1, hDown, zn, gone, lost, rHelloN, rHelloD, rHelloU, rStay, rKeep, tickN, tickD, costN, costD, costE, costBad, rTickN, rTickD, rCostN, rCostD, chk, bad, okA, wi] <;> first | done | omega | (rw [Bool.eq_iff_iff]; simp; omega) | (split <;> simp_all <;> omega) | grind | trace_state)
    case hf =>
      intro hb
      try simp only [Bool.or_eq_true, Bool.and_eq_true, Bool.or_eq_false_iff, Bool.and_eq_false_iff, decide_eq_true_eq, decide_eq_false_iff_not] at hb
      have hbt10 := hb
      refine AW.skip ?_
      refine AW.seq ?_
      refine AW.region (cfg := cfg) ?_
      apply aops_step (by decide) rfl
      · intro K hK
        simp (disch := first | omega | decide) only [go_sem, f0, act_fieldAddr_t fo47_6, List.map]
        first | rw [mwp_fieldAddr_b (by simp (disch := first | omega | decide) only [go_sem, f0]; rfl)] | skip
        exact hK _
      apply aops_step (by decide) rfl
      · intro K hK
        simp (disch := first | omega | decide) only [go_sem, f0, act_load_t ti3, List.map]
        first | rw [mwp_load_i1 (by rfl)] | rw [mwp_load_g1 (by first | (rw [hG]; rfl) | rfl) (by rfl)] | rw [mwp_load_gs (by first | (rw [hG]; rfl) | rfl) (by simp)] | rw [mwp_load_bs (by simp (disch := first | omega | decide) only [go_sem, f0]; rfl) (by simp [setAt])] | rw [mwp_load_b1 (by simp (disch := first | omega | decide) only [go_sem, f0]; rfl) (by rfl)] | rw [mwp_aLoad_map (by simp (disch := first | omega | decide) only [go_sem, f0]; rfl) (by first | omega | (simp; omega)) (fun _ => rfl)] | rw [mwp_aLoad_e1 (by simp (disch := first | omega | decide) only [go_sem, f0]; rfl) (by simp) rfl] | skip
        exact hK _
      iterate 1 (apply aops_step (by decide) rfl; · (intro K hK; simp (disch := first | omega | decide) only [go_sem, f0]; exact hK _))
      apply aops_step (by decide) rfl
      · intro K hK
        simp (disch := first | omega | decide) only [go_sem, f0, act_fieldAddr_t fo47_6, List.map]
        first | rw [mwp_fieldAddr_b (by simp (disch := first | omega | decide) only [go_sem, f0]; rfl)] | skip
        exact hK _
      apply aops_step0 rfl
      · intro K hK
        simp (disch := first | omega | decide) only [go_sem, f0, act_store_t ti3, List.map]
        first | rw [mwp_store_g1 (by first | (rw [hG]; rfl) | rfl) (by simp) rfl rfl] | rw [mwp_store_c (by simp (disch := first | omega | decide) only [go_sem, f0]; rfl) (by rfl) (by rfl) (by rfl) (by simp)] | rw [mwp_aStore_map (by simp (disch := first | omega | decide) only [go_sem, f0]; rfl) (by first | omega | (simp; omega)) (fun _ => rfl) rfl rfl (fun _ => rfl)] | skip
        try simp only [setAt, cellsL, cellsOf_agg, cellsOf_base, List.map_cons, List.map_nil, List.set_cons_zero, List.set_cons_succ, Nat.reduceAdd, Nat.zero_add, hG]
        exact hK _
      refine aops_nil ?_
      refine AW.seq ?_
      refine AW.region (cfg := cfg) ?_
      apply aops_step (by decide) rfl
      · intro K hK
        simp (disch := first | omega | decide) only [go_sem, f0, act_load_t ti47, List.map]
        first | rw [mwp_load_i1 (by rfl)] | rw [mwp_load_g1 (by first | (rw [hG]; rfl) | rfl) (by rfl)] | rw [mwp_load_gs (by first | (rw [hG]; rfl) | rfl) (by simp)] | rw [mwp_load_bs (by simp (disch := first | omega | decide) only [go_sem, f0]; rfl) (by simp [setAt])] | rw [mwp_load_b1 (by simp (disch := first | omega | decide) only [go_sem, f0]; rfl) (by rfl)] | rw [mwp_aLoad_map (by simp (disch := first | omega | decide) only [go_sem, f0]; rfl) (by first | omega | (simp; omega)) (fun _ => rfl)] | rw [mwp_aLoad_e1 (by simp (disch := first | omega | decide) only [go_sem, f0]; rfl) (by simp) rfl] | skip
        exact hK _
      apply aops_step0 rfl
      · intro K hK
        simp (disch := first | omega | decide) only [go_sem, f0, act_store_t ti47, List.map]
        first | rw [mwp_store_g1 (by first | (rw [hG]; rfl) | rfl) (by simp) rfl rfl] | rw [mwp_store_c (by simp (disch := first | omega | decide) only [go_sem, f0]; rfl) (by rfl) (by rfl) (by rfl) (by simp)] | rw [mwp_aStore_map (by simp (disch := first | omega | decide) only [go_sem, f0]; rfl) (by first | omega | (simp; omega)) (fun _ => rfl) rfl rfl (fun _ => rfl)] | skip
        try simp only [setAt, cellsL, cellsOf_agg, cellsOf_base, List.map_cons, List.map_nil, List.set_cons_zero, List.set_cons_succ, Nat.reduceAdd, Nat.zero_add, hG]
        exact hK _
      iterate 1 (apply aops_step (by decide) rfl; · (intro K hK; simp (disch := first | omega | decide) only [go_sem, f0]; exact hK _))
      refine aops_nil ?_
      refine AW.ret ?_
      refine ⟨.inr rfl, ?_⟩
      refine leaves_mwp2 (rs := [.cell 2 47, .tmp 3]) rfl ?_
      simp (config := {failIfUnchanged := false}) [giveL, srcOne, rehome, freezeN, sub, ti47, upd, opn, aLoad, loadL, giveOne, reify, reifyL, readL, readOne, Mwp, M.bind, Mem.set, setAt, cellsL, hG, f0]
      clear hr hv hG f0
      obtain ⟨of, co, bo, ep, he, fu, ag, go⟩ := n
      all_goals (cases he <;> cases fu <;> cases go <;> simp_all [helloN, helloD, helloU, helloE, hBad, hStay, h2, hUp, h1, hDown, zn, gone, lost, rHelloN, rHelloD, rHelloU, rStay, rKeep, tickN, tickD, costN, costD, costE, costBad, rTickN, rTickD, rCostN, rCostD, chk, bad, okA, wi] <;> first | done | omega | (rw [Bool.eq_iff_iff]; simp; omega) | (split <;> simp_all <;> omega) | grind | trace_state)

set_option maxHeartbeats 4000000 in
set_option maxRecDepth 100000 in
theorem good_refCost (n : Near) (c : Int) : Good Try.prog 43 [(.agg [i64 (n).of, i64 (n).co, i64 (n).bo, i64 (n).ep, .b (n).he, .b (n).fu, i64 (n).ag, .b (n).go], false), (i64 c, false)] [] [(.agg [i64 (rCostN n c).of, i64 (rCostN n c).co, i64 (rCostN n c).bo, i64 (rCostN n c).ep, .b (rCostN n c).he, .b (rCostN n c).fu, i64 (rCostN n c).ag, .b (rCostN n c).go], false), (.b (rCostD n c), false)] [] := by
  refine good_of_body2 20 Try.func43 rfl rfl rfl (by simp) ?_
  intro s m ha hr hv hG
  have f0 : s 0 = .v (.agg [i64 (n).of, i64 (n).co, i64 (n).bo, i64 (n).ep, .b (n).he, .b (n).fu, i64 (n).ag, .b (n).go]) := ha 0 _ rfl
  have f1 : s 1 = .v (i64 c) := ha 1 _ rfl
  clear ha
  refine AW.seq ?_
  refine AW.region (cfg := cfg) ?_
  apply aops_step (by decide) rfl
  · intro K hK
    simp (disch := first | omega | decide) only [go_sem, f0, f1, act_box_t ti47, List.map]
    rw [settleL_vish _ _ (by rfl)]
    simp (disch := first | omega | decide) only [go_sem, f0, f1, cellsL, List.map, List.length_cons, List.length_nil, Nat.reduceAdd, if_true]
    exact hK _
  apply aops_step (by decide) rfl
  · intro K hK
    simp (disch := first | omega | decide) only [go_sem, f0, f1, act_alloc_t ti47, List.map]
    exact hK _
  iterate 1 (apply aops_step (by decide) rfl; · (intro K hK; simp (disch := first | omega | decide) only [go_sem, f0, f1]; exact hK _))
  refine aops_nil ?_
  refine AW.seq ?_
  refine AW.seq ?_
  refine AW.region (cfg := cfg) ?_
  iterate 2 (apply aops_step (by decide) rfl; · (intro K hK; simp (disch := first | omega | decide) only [go_sem, f0, f1]; exact hK _))
  refine aops_nil ?_
  apply AW.cond
  · simp (disch := first | omega | decide) only [go_sem, f0, f1]; rfl
  case ht =>
    intro hb
    try simp only [Bool.or_eq_true, Bool.and_eq_true, Bool.or_eq_false_iff, Bool.and_eq_false_iff, decide_eq_true_eq, decide_eq_false_iff_not] at hb
    have hbt7 := hb
    refine AW.seq ?_
    refine AW.draw (cfg := cfg) (by kernel_rfl) (by kernel_rfl) (by kernel_rfl) ?_
    apply adraw_step rfl
    · intro K hK
      simp (disch := first | omega | decide) only [go_sem, f0, f1, act_fieldAddr_t fo47_0, List.map]
      first | rw [mwp_fieldAddr_b (by simp (disch := first | omega | decide) only [go_sem, f0, f1]; rfl)] | skip
      exact hK
    apply adraw_step rfl
    · intro K hK
      simp (disch := first | omega | decide) only [go_sem, f0, f1, act_load_t ti3, List.map]
      first | rw [mwp_load_i1 (by rfl)] | rw [mwp_load_g1 (by first | (rw [hG]; rfl) | rfl) (by rfl)] | rw [mwp_load_gs (by first | (rw [hG]; rfl) | rfl) (by simp)] | rw [mwp_load_bs (by simp (disch := first | omega | decide) only [go_sem, f0, f1]; rfl) (by simp [setAt])] | rw [mwp_load_b1 (by simp (disch := first | omega | decide) only [go_sem, f0, f1]; rfl) (by rfl)] | rw [mwp_aLoad_map (by simp (disch := first | omega | decide) only [go_sem, f0, f1]; rfl) (by first | omega | (simp; omega)) (fun _ => rfl)] | rw [mwp_aLoad_e1 (by simp (disch := first | omega | decide) only [go_sem, f0, f1]; rfl) (by simp) rfl] | skip
      exact hK
    apply adraw_step rfl
    · intro K hK
      simp (disch := first | omega | decide) only [go_sem, f0, f1, act_fieldAddr_t fo47_2, List.map]
      first | rw [mwp_fieldAddr_b (by simp (disch := first | omega | decide) only [go_sem, f0, f1]; rfl)] | skip
      exact hK
    apply adraw_step rfl
    · intro K hK
      simp (disch := first | omega | decide) only [go_sem, f0, f1, act_load_t ti3, List.map]
      first | rw [mwp_load_i1 (by rfl)] | rw [mwp_load_g1 (by first | (rw [hG]; rfl) | rfl) (by rfl)] | rw [mwp_load_gs (by first | (rw [hG]; rfl) | rfl) (by simp)] | rw [mwp_load_bs (by simp (disch := first | omega | decide) only [go_sem, f0, f1]; rfl) (by simp [setAt])] | rw [mwp_load_b1 (by simp (disch := first | omega | decide) only [go_sem, f0, f1]; rfl) (by rfl)] | rw [mwp_aLoad_map (by simp (disch := first | omega | decide) only [go_sem, f0, f1]; rfl) (by first | omega | (simp; omega)) (fun _ => rfl)] | rw [mwp_aLoad_e1 (by simp (disch := first | omega | decide) only [go_sem, f0, f1]; rfl) (by simp) rfl] | skip
      exact hK
    apply adraw_step rfl
    · intro K hK
      simp (disch := first | omega | decide) only [go_sem, f0, f1, act_fieldAddr_t fo47_3, List.map]
      first | rw [mwp_fieldAddr_b (by simp (disch := first | omega | decide) only [go_sem, f0, f1]; rfl)] | skip
      exact hK
    apply adraw_step rfl
    · intro K hK
      simp (disch := first | omega | decide) only [go_sem, f0, f1, act_load_t ti3, List.map]
      first | rw [mwp_load_i1 (by rfl)] | rw [mwp_load_g1 (by first | (rw [hG]; rfl) | rfl) (by rfl)] | rw [mwp_load_gs (by first | (rw [hG]; rfl) | rfl) (by simp)] | rw [mwp_load_bs (by simp (disch := first | omega | decide) only [go_sem, f0, f1]; rfl) (by simp [setAt])] | rw [mwp_load_b1 (by simp (disch := first | omega | decide) only [go_sem, f0, f1]; rfl) (by rfl)] | rw [mwp_aLoad_map (by simp (disch := first | omega | decide) only [go_sem, f0, f1]; rfl) (by first | omega | (simp; omega)) (fun _ => rfl)] | rw [mwp_aLoad_e1 (by simp (disch := first | omega | decide) only [go_sem, f0, f1]; rfl) (by simp) rfl] | skip
      exact hK
    apply adraw_step rfl
    · intro K hK
      simp (disch := first | omega | decide) only [go_sem, f0, f1, act_build_t ti47 pl47, List.map]
      simp [-List.map_take, -List.map_drop, fillL, okOne, cellishAV, Value.oneCell', cellsL, cellsOf, setAt, M.bind, Mwp]
      exact hK
    apply adraw_step rfl
    · intro K hK
      simp (disch := first | omega | decide) only [go_sem, f0, f1, act_fieldAddr_t fo47_5, List.map]
      first | rw [mwp_fieldAddr_b (by simp (disch := first | omega | decide) only [go_sem, f0, f1]; rfl)] | skip
      exact hK
    apply adraw_step rfl
    · intro K hK
      simp (disch := first | omega | decide) only [go_sem, f0, f1, act_load_t ti4, List.map]
      first | rw [mwp_load_i1 (by rfl)] | rw [mwp_load_g1 (by first | (rw [hG]; rfl) | rfl) (by rfl)] | rw [mwp_load_gs (by first | (rw [hG]; rfl) | rfl) (by simp)] | rw [mwp_load_bs (by simp (disch := first | omega | decide) only [go_sem, f0, f1]; rfl) (by simp [setAt])] | rw [mwp_load_b1 (by simp (disch := first | omega | decide) only [go_sem, f0, f1]; rfl) (by rfl)] | rw [mwp_aLoad_map (by simp (disch := first | omega | decide) only [go_sem, f0, f1]; rfl) (by first | omega | (simp; omega)) (fun _ => rfl)] | rw [mwp_aLoad_e1 (by simp (disch := first | omega | decide) only [go_sem, f0, f1]; rfl) (by simp) rfl] | skip
      exact hK
    apply adraw_step0 rfl
    · intro K hK
      simp (disch := first | omega | decide) only [go_sem, f0, f1, act_store_t ti47, List.map]
      first | rw [mwp_store_g1 (by first | (rw [hG]; rfl) | rfl) (by simp) rfl rfl] | rw [mwp_store_c (by simp (disch := first | omega | decide) only [go_sem, f0, f1]; rfl) (by rfl) (by rfl) (by rfl) (by simp)] | rw [mwp_aStore_map (by simp (disch := first | omega | decide) only [go_sem, f0, f1]; rfl) (by first | omega | (simp; omega)) (fun _ => rfl) rfl rfl (fun _ => rfl)] | skip
      try simp only [setAt, cellsL, cellsOf_agg, cellsOf_base, List.map_cons, List.map_nil, List.set_cons_zero, List.set_cons_succ, Nat.reduceAdd, Nat.zero_add, hG]
      exact hK
    iterate 1 (apply adraw_step rfl; · (intro K hK; simp (disch := first | omega | decide) only [go_sem, f0, f1]; exact hK))
    refine adraw_nil (by kernel_rfl) ?_
    refine AW.ret ?_
    refine ⟨.inr rfl, ?_⟩
    refine leaves_mwp2 (rs := [.cell 4 47, .tmp 5]) rfl ?_
    simp (config := {failIfUnchanged := false}) [giveL, srcOne, rehome, freezeN, sub, ti47, upd, opn, aLoad, loadL, giveOne, reify, reifyL, readL, readOne, Mwp, M.bind, Mem.set, setAt, cellsL, hG, f0, f1]
    clear hr hv hG f0
    obtain ⟨of, co, bo, ep, he, fu, ag, go⟩ := n
    all_goals (cases he <;> cases fu <;> cases go <;> simp_all [helloN, helloD, helloU, helloE, hBad, hStay, h2, hUp, h1, hDown, zn, gone, lost, rHelloN, rHelloD, rHelloU, rStay, rKeep, tickN, tickD, costN, costD, costE, costBad, rTickN, rTickD, rCostN, rCostD, chk, bad, okA, wi] <;> first | done | omega | (rw [Bool.eq_iff_iff]; simp; omega) | (split <;> simp_all <;> omega) | grind | trace_state)
  case hf =>
    intro hb
    try simp only [Bool.or_eq_true, Bool.and_eq_true, Bool.or_eq_false_iff, Bool.and_eq_false_iff, decide_eq_true_eq, decide_eq_false_iff_not] at hb
    have hbt7 := hb
    refine AW.skip ?_
    refine AW.seq ?_
    refine AW.region (cfg := cfg) ?_
    iterate 1 (apply aops_step (by decide) rfl; · (intro K hK; simp (disch := first | omega | decide) only [go_sem, f0, f1]; exact hK _))
    apply aops_step (by decide) rfl
    · intro K hK
      simp (disch := first | omega | decide) only [go_sem, f0, f1, act_fieldAddr_t fo47_1, List.map]
      first | rw [mwp_fieldAddr_b (by simp (disch := first | omega | decide) only [go_sem, f0, f1]; rfl)] | skip
      exact hK _
    apply aops_step0 rfl
    · intro K hK
      simp (disch := first | omega | decide) only [go_sem, f0, f1, act_store_t ti3, List.map]
      first | rw [mwp_store_g1 (by first | (rw [hG]; rfl) | rfl) (by simp) rfl rfl] | rw [mwp_store_c (by simp (disch := first | omega | decide) only [go_sem, f0, f1]; rfl) (by rfl) (by rfl) (by rfl) (by simp)] | rw [mwp_aStore_map (by simp (disch := first | omega | decide) only [go_sem, f0, f1]; rfl) (by first | omega | (simp; omega)) (fun _ => rfl) rfl rfl (fun _ => rfl)] | skip
      try simp only [setAt, cellsL, cellsOf_agg, cellsOf_base, List.map_cons, List.map_nil, List.set_cons_zero, List.set_cons_succ, Nat.reduceAdd, Nat.zero_add, hG]
      exact hK _
    refine aops_nil ?_
    refine AW.seq ?_
    refine AW.region (cfg := cfg) ?_
    apply aops_step (by decide) rfl
    · intro K hK
      simp (disch := first | omega | decide) only [go_sem, f0, f1, act_load_t ti47, List.map]
      first | rw [mwp_load_i1 (by rfl)] | rw [mwp_load_g1 (by first | (rw [hG]; rfl) | rfl) (by rfl)] | rw [mwp_load_gs (by first | (rw [hG]; rfl) | rfl) (by simp)] | rw [mwp_load_bs (by simp (disch := first | omega | decide) only [go_sem, f0, f1]; rfl) (by simp [setAt])] | rw [mwp_load_b1 (by simp (disch := first | omega | decide) only [go_sem, f0, f1]; rfl) (by rfl)] | rw [mwp_aLoad_map (by simp (disch := first | omega | decide) only [go_sem, f0, f1]; rfl) (by first | omega | (simp; omega)) (fun _ => rfl)] | rw [mwp_aLoad_e1 (by simp (disch := first | omega | decide) only [go_sem, f0, f1]; rfl) (by simp) rfl] | skip
      exact hK _
    apply aops_step0 rfl
    · intro K hK
      simp (disch := first | omega | decide) only [go_sem, f0, f1, act_store_t ti47, List.map]
      first | rw [mwp_store_g1 (by first | (rw [hG]; rfl) | rfl) (by simp) rfl rfl] | rw [mwp_store_c (by simp (disch := first | omega | decide) only [go_sem, f0, f1]; rfl) (by rfl) (by rfl) (by rfl) (by simp)] | rw [mwp_aStore_map (by simp (disch := first | omega | decide) only [go_sem, f0, f1]; rfl) (by first | omega | (simp; omega)) (fun _ => rfl) rfl rfl (fun _ => rfl)] | skip
      try simp only [setAt, cellsL, cellsOf_agg, cellsOf_base, List.map_cons, List.map_nil, List.set_cons_zero, List.set_cons_succ, Nat.reduceAdd, Nat.zero_add, hG]
      exact hK _
    iterate 1 (apply aops_step (by decide) rfl; · (intro K hK; simp (disch := first | omega | decide) only [go_sem, f0, f1]; exact hK _))
    refine aops_nil ?_
    refine AW.ret ?_
    refine ⟨.inr rfl, ?_⟩
    refine leaves_mwp2 (rs := [.cell 4 47, .tmp 5]) rfl ?_
    simp (config := {failIfUnchanged := false}) [giveL, srcOne, rehome, freezeN, sub, ti47, upd, opn, aLoad, loadL, giveOne, reify, reifyL, readL, readOne, Mwp, M.bind, Mem.set, setAt, cellsL, hG, f0, f1]
    clear hr hv hG f0
    obtain ⟨of, co, bo, ep, he, fu, ag, go⟩ := n
    all_goals (cases he <;> cases fu <;> cases go <;> simp_all [helloN, helloD, helloU, helloE, hBad, hStay, h2, hUp, h1, hDown, zn, gone, lost, rHelloN, rHelloD, rHelloU, rStay, rKeep, tickN, tickD, costN, costD, costE, costBad, rTickN, rTickD, rCostN, rCostD, chk, bad, okA, wi] <;> first | done | omega | (rw [Bool.eq_iff_iff]; simp; omega) | (split <;> simp_all <;> omega) | grind | trace_state)

theorem w1 : helloN ⟨2, 1, 0, 0, false, false, 0, false⟩ 1 true = ⟨2, 1, 1, 0, true, true, 0, false⟩ := by decide
theorem w2 : helloD ⟨2, 1, 0, 0, false, false, 0, false⟩ 1 true = false := by decide
theorem w3 : helloU ⟨2, 1, 0, 0, false, false, 0, false⟩ 1 true = true := by decide
theorem w4 : helloE ⟨2, 1, 0, 0, false, false, 0, false⟩ 1 = 0 := by decide
theorem hello_ok (n : Near) (b : Int) (h : Bool) (e1 : bad n = false) (e2 : wi b 1 1073741824 = true) : helloN n b h = rHelloN n b h ∧ helloD n b h = rHelloD n b h ∧ helloU n b h = rHelloU n b h ∧ helloE n b = 0 ∧ bad (rHelloN n b h) = false ∧ n.bo ≤ (rHelloN n b h).bo := by
  obtain ⟨of, co, bo, ep, he, fu, ag, go⟩ := n
  by_cases c1 : b < bo <;> by_cases c2 : co = 0 <;> by_cases c3 : b = bo <;> cases he <;> cases fu <;> cases go <;> cases h <;> simp_all [helloN, helloD, helloU, helloE, hBad, hStay, h2, hUp, h1, hDown, zn, gone, lost, rHelloN, rHelloD, rHelloU, rStay, rKeep, tickN, tickD, costN, costD, costE, costBad, rTickN, rTickD, rCostN, rCostD, bad, okA, wi] <;> grind
theorem hello_bad (n : Near) (b : Int) (h : Bool) (e1 : bad n = true ∨ wi b 1 1073741824 = false) : helloN n b h = zn ∧ helloD n b h = false ∧ helloU n b h = false ∧ helloE n b = 1 := by
  have : hBad n b = true := by simp [hBad]; exact e1
  simp [helloN, helloD, helloU, helloE, this]
theorem tick_ok (n : Near) (e1 : bad n = false) : tickN n = rTickN n ∧ tickD n = rTickD n ∧ bad (rTickN n) = false := by
  obtain ⟨of, co, bo, ep, he, fu, ag, go⟩ := n
  by_cases c3 : ag = 4 <;> cases he <;> cases fu <;> cases go <;> simp_all [helloN, helloD, helloU, helloE, hBad, hStay, h2, hUp, h1, hDown, zn, gone, lost, rHelloN, rHelloD, rHelloU, rStay, rKeep, tickN, tickD, costN, costD, costE, costBad, rTickN, rTickD, rCostN, rCostD, bad, okA, wi] <;> grind
theorem cost_ok (n : Near) (c : Int) (e1 : bad n = false) (e2 : wi c 0 1073741824 = true) : costN n c = rCostN n c ∧ costD n c = rCostD n c ∧ costE n c = 0 ∧ bad (rCostN n c) = false := by
  obtain ⟨of, co, bo, ep, he, fu, ag, go⟩ := n
  by_cases c3 : c = 0 <;> cases he <;> cases fu <;> cases go <;> simp_all [helloN, helloD, helloU, helloE, hBad, hStay, h2, hUp, h1, hDown, zn, gone, lost, rHelloN, rHelloD, rHelloU, rStay, rKeep, tickN, tickD, costN, costD, costE, costBad, rTickN, rTickD, rCostN, rCostD, bad, okA, wi] <;> grind

set_option maxHeartbeats 4000000 in
set_option maxRecDepth 100000 in
theorem good_awake  : Good Try.prog 30 [] [] [(.b true, false)] [] := by
  refine good_of_body2 30 Try.func30 rfl rfl rfl (by simp) ?_
  intro s m ha hr hv hG
  clear ha
  refine AW.seq ?_
  refine AW.region (cfg := cfg) ?_
  iterate 1 (apply aops_step (by decide) rfl; · (intro K hK; simp (disch := first | omega | decide) only [go_sem, w1, w2, w3, w4, eq_self, decide_true, Bool.and_true, Bool.and_self, Bool.not_false]; exact hK _))
  refine aops_nil ?_
  refine AW.seq ?_
  refine AW.region (cfg := cfg) ?_
  apply aops_step (by decide) rfl
  · intro K hK
    simp (disch := first | omega | decide) only [go_sem, act_build_t ti47 pl47, List.map, w1, w2, w3, w4, eq_self, decide_true, Bool.and_true, Bool.and_self, Bool.not_false]
    simp [-List.map_take, -List.map_drop, fillL, okOne, cellishAV, Value.oneCell', cellsL, cellsOf, setAt, M.bind, Mwp]
    exact hK _
  apply aops_step (by decide) rfl
  · intro K hK
    simp (disch := first | omega | decide) only [go_sem, act_call, List.map, w1, w2, w3, w4, eq_self, decide_true, Bool.and_true, Bool.and_self, Bool.not_false]
    apply mwp_call_r rfl rfl rfl
    · intro Q hQ
      simp (disch := first | omega | decide) only [go_sem, peekL, reifyL_nil, reifyL_cons, reify_v, w1, w2, w3, w4, eq_self, decide_true, Bool.and_true, Bool.and_self, Bool.not_false]
      first | exact hQ | ((first | rw [peek_own (by simp (disch := first | omega | decide) only [go_sem, peekL, w1, w2, w3, w4, eq_self, decide_true, Bool.and_true, Bool.and_self, Bool.not_false]; rfl)] | rw [mwp_reify_own (by simp (disch := first | omega | decide) only [go_sem, peekL, w1, w2, w3, w4, eq_self, decide_true, Bool.and_true, Bool.and_self, Bool.not_false]; rfl)]); exact hQ) | ((first | rw [peek_own (by simp (disch := first | omega | decide) only [go_sem, peekL, w1, w2, w3, w4, eq_self, decide_true, Bool.and_true, Bool.and_self, Bool.not_false]; rfl)] | rw [mwp_reify_own (by simp (disch := first | omega | decide) only [go_sem, peekL, w1, w2, w3, w4, eq_self, decide_true, Bool.and_true, Bool.and_self, Bool.not_false]; rfl)]); simp (disch := first | omega | decide) only [go_sem, peekL, w1, w2, w3, w4, eq_self, decide_true, Bool.and_true, Bool.and_self, Bool.not_false]; (first | rw [peek_own (by simp (disch := first | omega | decide) only [go_sem, peekL, w1, w2, w3, w4, eq_self, decide_true, Bool.and_true, Bool.and_self, Bool.not_false]; rfl)] | rw [mwp_reify_own (by simp (disch := first | omega | decide) only [go_sem, peekL, w1, w2, w3, w4, eq_self, decide_true, Bool.and_true, Bool.and_self, Bool.not_false]; rfl)]); exact hQ) | ((first | rw [peek_own (by simp (disch := first | omega | decide) only [go_sem, peekL, w1, w2, w3, w4, eq_self, decide_true, Bool.and_true, Bool.and_self, Bool.not_false]; rfl)] | rw [mwp_reify_own (by simp (disch := first | omega | decide) only [go_sem, peekL, w1, w2, w3, w4, eq_self, decide_true, Bool.and_true, Bool.and_self, Bool.not_false]; rfl)]); simp (disch := first | omega | decide) only [go_sem, peekL, w1, w2, w3, w4, eq_self, decide_true, Bool.and_true, Bool.and_self, Bool.not_false]; exact hQ)
    · exact good_Hello ⟨2, 1, 0, 0, false, false, 0, false⟩ 1 true
    · simp [-List.map_take, -List.map_drop, noPtrL, noPtr, noPtrL_bsl, noPtrL_map, sub]
    · simp (disch := first | omega | decide) only [go_sem, w1, w2, w3, w4, eq_self, decide_true, Bool.and_true, Bool.and_self, Bool.not_false]
      exact hK _
  iterate 5 (apply aops_step (by decide) rfl; · (intro K hK; simp (disch := first | omega | decide) only [go_sem, w1, w2, w3, w4, eq_self, decide_true, Bool.and_true, Bool.and_self, Bool.not_false]; exact hK _))
  apply aops_step (by decide) rfl
  · intro K hK
    simp (disch := first | omega | decide) only [go_sem, act_alloc_t ti47, List.map, w1, w2, w3, w4, eq_self, decide_true, Bool.and_true, Bool.and_self, Bool.not_false]
    exact hK _
  apply aops_step0 rfl
  · intro K hK
    simp (disch := first | omega | decide) only [go_sem, act_store_t ti47, List.map, w1, w2, w3, w4, eq_self, decide_true, Bool.and_true, Bool.and_self, Bool.not_false]
    first | rw [mwp_store_g1 (by first | (rw [hG]; rfl) | rfl) (by simp) rfl rfl] | rw [mwp_store_c (by simp (disch := first | omega | decide) only [go_sem, w1, w2, w3, w4, eq_self, decide_true, Bool.and_true, Bool.and_self, Bool.not_false]; rfl) (by rfl) (by rfl) (by rfl) (by simp)] | rw [mwp_aStore_map (by simp (disch := first | omega | decide) only [go_sem, w1, w2, w3, w4, eq_self, decide_true, Bool.and_true, Bool.and_self, Bool.not_false]; rfl) (by first | omega | (simp; omega)) (fun _ => rfl) rfl rfl (fun _ => rfl)] | skip
    try simp only [setAt, cellsL, cellsOf_agg, cellsOf_base, List.map_cons, List.map_nil, List.set_cons_zero, List.set_cons_succ, Nat.reduceAdd, Nat.zero_add, hG]
    exact hK _
  iterate 3 (apply aops_step (by decide) rfl; · (intro K hK; simp (disch := first | omega | decide) only [go_sem, w1, w2, w3, w4, eq_self, decide_true, Bool.and_true, Bool.and_self, Bool.not_false]; exact hK _))
  refine aops_nil ?_
  refine AW.seq ?_
  refine AW.region (cfg := cfg) ?_
  iterate 3 (apply aops_step (by decide) rfl; · (intro K hK; simp (disch := first | omega | decide) only [go_sem, w1, w2, w3, w4, eq_self, decide_true, Bool.and_true, Bool.and_self, Bool.not_false]; exact hK _))
  apply aops_merge' (by decide) (by first | exact want_of (d := 14) rfl (by simp (disch := first | omega | decide) only [go_sem, opn_cond, w1, w2, w3, w4, eq_self, decide_true, Bool.and_true, Bool.and_self, Bool.not_false]; rfl) | exact want_of_cond (d := 14) rfl (by simp (disch := first | omega | decide) only [go_sem, opn_cond, w1, w2, w3, w4, eq_self, decide_true, Bool.and_true, Bool.and_self, Bool.not_false]; rfl))
  · intro hc K hK
    have hc2 := hc
    simp only [beq_iff_eq, decide_eq_true_eq, decide_eq_false_iff_not, Bool.or_eq_true, Bool.and_eq_true, Bool.or_eq_false_iff, Bool.and_eq_false_iff] at hc2
    simp (disch := first | omega | decide) only [go_sem, opn_cond, hc, if_true, w1, w2, w3, w4, eq_self, decide_true, Bool.and_true, Bool.and_self, Bool.not_false]
    exact hK _
  apply aops_merge' (by decide) (by first | exact want_of (d := 14) rfl (by simp (disch := first | omega | decide) only [go_sem, opn_cond, w1, w2, w3, w4, eq_self, decide_true, Bool.and_true, Bool.and_self, Bool.not_false]; rfl) | exact want_of_cond (d := 14) rfl (by simp (disch := first | omega | decide) only [go_sem, opn_cond, w1, w2, w3, w4, eq_self, decide_true, Bool.and_true, Bool.and_self, Bool.not_false]; rfl))
  · intro hc K hK
    have hc2 := hc
    simp only [beq_iff_eq, decide_eq_true_eq, decide_eq_false_iff_not, Bool.or_eq_true, Bool.and_eq_true, Bool.or_eq_false_iff, Bool.and_eq_false_iff] at hc2
    simp (disch := first | omega | decide) only [go_sem, opn_cond, hc, if_true, w1, w2, w3, w4, eq_self, decide_true, Bool.and_true, Bool.and_self, Bool.not_false]
    exact hK _
  iterate 2 (apply aops_step (by decide) rfl; · (intro K hK; simp (disch := first | omega | decide) only [go_sem, w1, w2, w3, w4, eq_self, decide_true, Bool.and_true, Bool.and_self, Bool.not_false]; exact hK _))
  apply aops_merge' (by decide) (by first | exact want_of (d := 18) rfl (by simp (disch := first | omega | decide) only [go_sem, opn_cond, w1, w2, w3, w4, eq_self, decide_true, Bool.and_true, Bool.and_self, Bool.not_false]; rfl) | exact want_of_cond (d := 18) rfl (by simp (disch := first | omega | decide) only [go_sem, opn_cond, w1, w2, w3, w4, eq_self, decide_true, Bool.and_true, Bool.and_self, Bool.not_false]; rfl))
  · intro hc K hK
    have hc2 := hc
    simp only [beq_iff_eq, decide_eq_true_eq, decide_eq_false_iff_not, Bool.or_eq_true, Bool.and_eq_true, Bool.or_eq_false_iff, Bool.and_eq_false_iff] at hc2
    simp (disch := first | omega | decide) only [go_sem, opn_cond, hc, if_true, w1, w2, w3, w4, eq_self, decide_true, Bool.and_true, Bool.and_self, Bool.not_false]
    exact hK _
  iterate 2 (apply aops_step (by decide) rfl; · (intro K hK; simp (disch := first | omega | decide) only [go_sem, w1, w2, w3, w4, eq_self, decide_true, Bool.and_true, Bool.and_self, Bool.not_false]; exact hK _))
  apply aops_merge' (by decide) (by first | exact want_of (d := 21) rfl (by simp (disch := first | omega | decide) only [go_sem, opn_cond, w1, w2, w3, w4, eq_self, decide_true, Bool.and_true, Bool.and_self, Bool.not_false]; rfl) | exact want_of_cond (d := 21) rfl (by simp (disch := first | omega | decide) only [go_sem, opn_cond, w1, w2, w3, w4, eq_self, decide_true, Bool.and_true, Bool.and_self, Bool.not_false]; rfl))
  · intro hc K hK
    have hc2 := hc
    simp only [beq_iff_eq, decide_eq_true_eq, decide_eq_false_iff_not, Bool.or_eq_true, Bool.and_eq_true, Bool.or_eq_false_iff, Bool.and_eq_false_iff] at hc2
    simp (disch := first | omega | decide) only [go_sem, opn_cond, hc, if_true, act_fieldAddr_t fo47_5, w1, w2, w3, w4, eq_self, decide_true, Bool.and_true, Bool.and_self, Bool.not_false]
    first | rw [mwp_fieldAddr_b (by simp (disch := first | omega | decide) only [go_sem, opn_cond, hc, if_true, w1, w2, w3, w4, eq_self, decide_true, Bool.and_true, Bool.and_self, Bool.not_false]; rfl)] | skip
    exact hK _
  apply aops_merge' (by decide) (by first | exact want_of (d := 21) rfl (by simp (disch := first | omega | decide) only [go_sem, opn_cond, w1, w2, w3, w4, eq_self, decide_true, Bool.and_true, Bool.and_self, Bool.not_false]; rfl) | exact want_of_cond (d := 21) rfl (by simp (disch := first | omega | decide) only [go_sem, opn_cond, w1, w2, w3, w4, eq_self, decide_true, Bool.and_true, Bool.and_self, Bool.not_false]; rfl))
  · intro hc K hK
    have hc2 := hc
    simp only [beq_iff_eq, decide_eq_true_eq, decide_eq_false_iff_not, Bool.or_eq_true, Bool.and_eq_true, Bool.or_eq_false_iff, Bool.and_eq_false_iff] at hc2
    simp (disch := first | omega | decide) only [go_sem, opn_cond, hc, if_true, act_load_t ti4, w1, w2, w3, w4, eq_self, decide_true, Bool.and_true, Bool.and_self, Bool.not_false]
    first | rw [mwp_load_i1 (by rfl)] | rw [mwp_load_g1 (by first | (rw [hG]; rfl) | rfl) (by rfl)] | rw [mwp_load_gs (by first | (rw [hG]; rfl) | rfl) (by simp)] | rw [mwp_load_bs (by simp (disch := first | omega | decide) only [go_sem, opn_cond, hc, if_true, w1, w2, w3, w4, eq_self, decide_true, Bool.and_true, Bool.and_self, Bool.not_false]; rfl) (by simp [setAt])] | rw [mwp_load_b1 (by simp (disch := first | omega | decide) only [go_sem, opn_cond, hc, if_true, w1, w2, w3, w4, eq_self, decide_true, Bool.and_true, Bool.and_self, Bool.not_false]; rfl) (by rfl)] | rw [mwp_aLoad_map (by simp (disch := first | omega | decide) only [go_sem, opn_cond, hc, if_true, w1, w2, w3, w4, eq_self, decide_true, Bool.and_true, Bool.and_self, Bool.not_false]; rfl) (by first | omega | (simp; omega)) (fun _ => rfl)] | rw [mwp_aLoad_e1 (by simp (disch := first | omega | decide) only [go_sem, opn_cond, hc, if_true, w1, w2, w3, w4, eq_self, decide_true, Bool.and_true, Bool.and_self, Bool.not_false]; rfl) (by simp) rfl] | skip
    exact hK _
  iterate 2 (apply aops_step (by decide) rfl; · (intro K hK; simp (disch := first | omega | decide) only [go_sem, w1, w2, w3, w4, eq_self, decide_true, Bool.and_true, Bool.and_self, Bool.not_false]; exact hK _))
  apply aops_merge' (by decide) (by first | exact want_of (d := 25) rfl (by simp (disch := first | omega | decide) only [go_sem, opn_cond, w1, w2, w3, w4, eq_self, decide_true, Bool.and_true, Bool.and_self, Bool.not_false]; rfl) | exact want_of_cond (d := 25) rfl (by simp (disch := first | omega | decide) only [go_sem, opn_cond, w1, w2, w3, w4, eq_self, decide_true, Bool.and_true, Bool.and_self, Bool.not_false]; rfl))
  · intro hc K hK
    have hc2 := hc
    simp only [beq_iff_eq, decide_eq_true_eq, decide_eq_false_iff_not, Bool.or_eq_true, Bool.and_eq_true, Bool.or_eq_false_iff, Bool.and_eq_false_iff] at hc2
    simp (disch := first | omega | decide) only [go_sem, opn_cond, hc, if_true, act_fieldAddr_t fo47_2, w1, w2, w3, w4, eq_self, decide_true, Bool.and_true, Bool.and_self, Bool.not_false]
    first | rw [mwp_fieldAddr_b (by simp (disch := first | omega | decide) only [go_sem, opn_cond, hc, if_true, w1, w2, w3, w4, eq_self, decide_true, Bool.and_true, Bool.and_self, Bool.not_false]; rfl)] | skip
    exact hK _
  apply aops_merge' (by decide) (by first | exact want_of (d := 25) rfl (by simp (disch := first | omega | decide) only [go_sem, opn_cond, w1, w2, w3, w4, eq_self, decide_true, Bool.and_true, Bool.and_self, Bool.not_false]; rfl) | exact want_of_cond (d := 25) rfl (by simp (disch := first | omega | decide) only [go_sem, opn_cond, w1, w2, w3, w4, eq_self, decide_true, Bool.and_true, Bool.and_self, Bool.not_false]; rfl))
  · intro hc K hK
    have hc2 := hc
    simp only [beq_iff_eq, decide_eq_true_eq, decide_eq_false_iff_not, Bool.or_eq_true, Bool.and_eq_true, Bool.or_eq_false_iff, Bool.and_eq_false_iff] at hc2
    simp (disch := first | omega | decide) only [go_sem, opn_cond, hc, if_true, act_load_t ti3, w1, w2, w3, w4, eq_self, decide_true, Bool.and_true, Bool.and_self, Bool.not_false]
    first | rw [mwp_load_i1 (by rfl)] | rw [mwp_load_g1 (by first | (rw [hG]; rfl) | rfl) (by rfl)] | rw [mwp_load_gs (by first | (rw [hG]; rfl) | rfl) (by simp)] | rw [mwp_load_bs (by simp (disch := first | omega | decide) only [go_sem, opn_cond, hc, if_true, w1, w2, w3, w4, eq_self, decide_true, Bool.and_true, Bool.and_self, Bool.not_false]; rfl) (by simp [setAt])] | rw [mwp_load_b1 (by simp (disch := first | omega | decide) only [go_sem, opn_cond, hc, if_true, w1, w2, w3, w4, eq_self, decide_true, Bool.and_true, Bool.and_self, Bool.not_false]; rfl) (by rfl)] | rw [mwp_aLoad_map (by simp (disch := first | omega | decide) only [go_sem, opn_cond, hc, if_true, w1, w2, w3, w4, eq_self, decide_true, Bool.and_true, Bool.and_self, Bool.not_false]; rfl) (by first | omega | (simp; omega)) (fun _ => rfl)] | rw [mwp_aLoad_e1 (by simp (disch := first | omega | decide) only [go_sem, opn_cond, hc, if_true, w1, w2, w3, w4, eq_self, decide_true, Bool.and_true, Bool.and_self, Bool.not_false]; rfl) (by simp) rfl] | skip
    exact hK _
  apply aops_merge' (by decide) (by first | exact want_of (d := 25) rfl (by simp (disch := first | omega | decide) only [go_sem, opn_cond, w1, w2, w3, w4, eq_self, decide_true, Bool.and_true, Bool.and_self, Bool.not_false]; rfl) | exact want_of_cond (d := 25) rfl (by simp (disch := first | omega | decide) only [go_sem, opn_cond, w1, w2, w3, w4, eq_self, decide_true, Bool.and_true, Bool.and_self, Bool.not_false]; rfl))
  · intro hc K hK
    have hc2 := hc
    simp only [beq_iff_eq, decide_eq_true_eq, decide_eq_false_iff_not, Bool.or_eq_true, Bool.and_eq_true, Bool.or_eq_false_iff, Bool.and_eq_false_iff] at hc2
    simp (disch := first | omega | decide) only [go_sem, opn_cond, hc, if_true, w1, w2, w3, w4, eq_self, decide_true, Bool.and_true, Bool.and_self, Bool.not_false]
    exact hK _
  iterate 2 (apply aops_step (by decide) rfl; · (intro K hK; simp (disch := first | omega | decide) only [go_sem, w1, w2, w3, w4, eq_self, decide_true, Bool.and_true, Bool.and_self, Bool.not_false]; exact hK _))
  refine aops_nil ?_
  refine AW.ret ?_
  refine ⟨.inr rfl, ?_⟩
  refine leaves_tmp1 0 rfl ?_ (by first | rfl | exact hG)
  simp (disch := first | omega | decide) only [go_sem, w1, w2, w3, w4, eq_self, decide_true, Bool.and_true, Bool.and_self, Bool.not_false]

end Go.Vai.N
