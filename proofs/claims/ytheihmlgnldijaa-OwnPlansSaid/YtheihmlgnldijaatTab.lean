import Derived.Test.YtheihmlgnldijaatCmp
namespace Go.Vai.T
open Go.Proofs Go.Vai Go.Vai.N
set_option linter.unusedSimpArgs false
set_option linter.unusedVariables false
set_option maxHeartbeats 4000000
set_option maxRecDepth 100000
structure Nr where
  of : Int
  co : Int
  bo : Int
  ep : Int
  he : Bool
  fu : Bool
  ag : Int
  go : Bool
  deriving DecidableEq
def nrA (x : Nr) : AV := .agg [.i .i64 x.of, .i .i64 x.co, .i .i64 x.bo, .i .i64 x.ep, .b x.he, .b x.fu, .i .i64 x.ag, .b x.go]
theorem cellsOf_nr (x : Nr) : cellsOf (nrA x) = [.i .i64 x.of, .i .i64 x.co, .i .i64 x.bo, .i .i64 x.ep, .b x.he, .b x.fu, .i .i64 x.ag, .b x.go] := rfl
@[simp] theorem noPtr_nr (x : Nr) : noPtr (nrA x) = true := by simp [nrA, noPtr, noPtrL]
@[simp] theorem noPtrL_nrs (l : List Nr) : noPtrL (l.map nrA) = true := noPtrL_map noPtr_nr _
def wi (n lo hi : Int) : Bool := decide (n ≥ lo) && decide (n ≤ hi)
def okA (n : Nr) : Bool := ((((wi n.of 1 64 && wi n.co 0 1073741824) && wi n.bo 0 1073741824) && wi n.ep 0 1073741824) && wi n.ag 0 4)
def bad (n : Nr) : Bool := ((((n.he && (decide (n.bo = 0) || decide (n.co = 0))) || (!n.he && decide (n.ag > 0))) || (n.fu && !n.he)) || (n.go && !n.fu)) || !okA n
def chk (n : Nr) : Int := if bad n then 1 else 0
theorem chk_0 {n : Nr} (h : chk n = 0) : bad n = false := by
  unfold chk at h
  cases hb : bad n with
  | false => rfl
  | true => rw [hb] at h; simp at h
theorem chk_1 {n : Nr} (h : ¬ chk n = 0) : bad n = true := by
  unfold chk at h
  cases hb : bad n with
  | true => rfl
  | false => rw [hb] at h; simp at h
theorem bad_of {n : Nr} (h : bad n = false) : 1 ≤ n.of ∧ n.of ≤ 64 := by
  simp [bad, okA, wi] at h; omega
attribute [go_sem] cellsOf_nr
theorem good_within (n lo hi : Int) : Good Try.prog 53 [(i64 n, false), (i64 lo, false), (i64 hi, false)] [] [(.b (wi n lo hi), false)] [] := by
  refine good_of_body2 15 Try.func53 rfl rfl rfl (by simp) ?_
  intro s m ha hr hv hG
  have f0 : s 0 = .v (i64 n) := ha 0 _ rfl
  have f1 : s 1 = .v (i64 lo) := ha 1 _ rfl
  have f2 : s 2 = .v (i64 hi) := ha 2 _ rfl
  clear ha
  have hc : True := trivial
  have F := (And.intro f0 (And.intro f1 (And.intro f2 hG)))
  refine AW.seq ?_
  refine AW.region (cfg := cfg) ?_
  refine stp (fun _ h => s0 h) ?_
  refine aops_nil ?_
  refine AW.seq ?_
  refine AW.region (cfg := cfg) ?_
  iterate 4 refine stp (fun _ h => s0 h) ?_
  iterate 3 refine mrg wa (fun hc _ h => s0 h) ?_
  iterate 2 refine stp (fun _ h => s0 h) ?_
  refine aops_nil ?_
  refine AW.ret ?_
  refine ⟨.inr rfl, ?_⟩
  refine leaves_tmp1 6 rfl ?_ (by exact hG)
  simp (disch := first | omega | decide) only [go_sem, F, aIndex_map]
  all_goals rfl
theorem good_chkN (x : Nr) : Good Try.prog 41 [(nrA x, false)] [] [(i64 (chk x), false)] [] := by
  refine good_of_body2 71 Try.func41 rfl rfl rfl (by simp) ?_
  intro s m ha hr hv hG
  have f0 : s 0 = .v (.agg [i64 x.of, i64 x.co, i64 x.bo, i64 x.ep, .b x.he, .b x.fu, i64 x.ag, .b x.go]) := ha 0 _ rfl
  clear ha
  have hc : True := trivial
  have F := (And.intro f0 hG)
  refine AW.seq ?_
  refine AW.region (cfg := cfg) ?_
  refine stp (fun _ h => sb h) ?_
  refine stp (fun _ h => s0 h) ?_
  refine aops_nil ?_
  refine AW.seq ?_
  refine AW.region (cfg := cfg) ?_
  refine stp (fun _ h => sx h) ?_
  refine stp (fun _ h => sl h) ?_
  refine stp (fun _ h => cs (w := good_within _ _ _) (x := h)) ?_
  refine stp (fun _ h => s0 h) ?_
  refine mrg wa (fun hc _ h => sx h) ?_
  refine mrg wa (fun hc _ h => sl h) ?_
  refine mrg wa (fun hc _ h => cs (w := good_within _ _ _) (x := h)) ?_
  iterate 2 refine stp (fun _ h => s0 h) ?_
  refine mrg wa (fun hc _ h => sx h) ?_
  refine mrg wa (fun hc _ h => sl h) ?_
  refine mrg wa (fun hc _ h => cs (w := good_within _ _ _) (x := h)) ?_
  iterate 2 refine stp (fun _ h => s0 h) ?_
  refine mrg wa (fun hc _ h => sx h) ?_
  refine mrg wa (fun hc _ h => sl h) ?_
  refine mrg wa (fun hc _ h => cs (w := good_within _ _ _) (x := h)) ?_
  iterate 2 refine stp (fun _ h => s0 h) ?_
  refine mrg wa (fun hc _ h => sx h) ?_
  refine mrg wa (fun hc _ h => sl h) ?_
  refine mrg wa (fun hc _ h => cs (w := good_within _ _ _) (x := h)) ?_
  iterate 2 refine stp (fun _ h => s0 h) ?_
  refine aops_nil ?_
  refine AW.seq ?_
  refine AW.seq ?_
  refine AW.region (cfg := cfg) ?_
  refine stp (fun _ h => sx h) ?_
  refine stp (fun _ h => sl h) ?_
  refine stp (fun _ h => s0 h) ?_
  refine mrg wa (fun hc _ h => sx h) ?_
  refine mrg wa (fun hc _ h => sl h) ?_
  iterate 2 refine mrg wa (fun hc _ h => s0 h) ?_
  refine mrg wa (fun hc _ h => sx h) ?_
  refine mrg wa (fun hc _ h => sl h) ?_
  iterate 2 refine mrg wa (fun hc _ h => s0 h) ?_
  iterate 2 refine stp (fun _ h => s0 h) ?_
  refine mrg wa (fun hc _ h => sx h) ?_
  refine mrg wa (fun hc _ h => sl h) ?_
  iterate 2 refine mrg wa (fun hc _ h => s0 h) ?_
  refine mrg wa (fun hc _ h => sx h) ?_
  refine mrg wa (fun hc _ h => sl h) ?_
  iterate 2 refine mrg wa (fun hc _ h => s0 h) ?_
  iterate 2 refine stp (fun _ h => s0 h) ?_
  refine mrg wa (fun hc _ h => sx h) ?_
  refine mrg wa (fun hc _ h => sl h) ?_
  refine mrg wa (fun hc _ h => s0 h) ?_
  refine mrg wa (fun hc _ h => sx h) ?_
  refine mrg wa (fun hc _ h => sl h) ?_
  iterate 2 refine mrg wa (fun hc _ h => s0 h) ?_
  iterate 2 refine stp (fun _ h => s0 h) ?_
  refine mrg wa (fun hc _ h => sx h) ?_
  refine mrg wa (fun hc _ h => sl h) ?_
  refine mrg wa (fun hc _ h => s0 h) ?_
  refine mrg wa (fun hc _ h => sx h) ?_
  refine mrg wa (fun hc _ h => sl h) ?_
  iterate 2 refine mrg wa (fun hc _ h => s0 h) ?_
  iterate 2 refine stp (fun _ h => s0 h) ?_
  iterate 2 refine mrg wa (fun hc _ h => s0 h) ?_
  refine stp (fun _ h => s0 h) ?_
  refine aops_nil ?_
  refine cnd (fun hb => ?ht1) (fun hb => ?hf1)
  case ht1 =>
    have hw70 := hb
    try simp only [bo1, bo2, bo3, bo4, bo5, bo6] at hb
    have hbt70 := hb
    refine AW.seq ?_
    refine AW.region (cfg := cfg) ?_
    refine stp (fun _ h => s0 h) ?_
    refine aops_nil ?_
    refine AW.ret ?_
    refine ⟨.inr rfl, ?_⟩
    refine leaves_tmp1 2 rfl ?_ (by exact hG)
    simp (disch := first | omega | decide) only [go_sem, F, aIndex_map]
    clear hr hv hG f0
    obtain ⟨of, co, bo, ep, he, fu, ag, go⟩ := x
    all_goals (cases he <;> cases fu <;> cases go <;> simp_all [chk, bad, okA, wi] <;> first | done | omega | (rw [Bool.eq_iff_iff]; simp; omega) | (split <;> simp_all <;> omega) | grind | trace_state)
  case hf1 =>
    have hw70 := hb
    try simp only [bo1, bo2, bo3, bo4, bo5, bo6] at hb
    have hbt70 := hb
    refine AW.skip ?_
    refine AW.seq ?_
    refine AW.region (cfg := cfg) ?_
    refine stp (fun _ h => s0 h) ?_
    refine aops_nil ?_
    refine AW.ret ?_
    refine ⟨.inr rfl, ?_⟩
    refine leaves_tmp1 2 rfl ?_ (by exact hG)
    simp (disch := first | omega | decide) only [go_sem, F, aIndex_map]
    clear hr hv hG f0
    obtain ⟨of, co, bo, ep, he, fu, ag, go⟩ := x
    all_goals (cases he <;> cases fu <;> cases go <;> simp_all [chk, bad, okA, wi] <;> first | done | omega | (rw [Bool.eq_iff_iff]; simp; omega) | (split <;> simp_all <;> omega) | grind | trace_state)
theorem good_mayN (x : Nr) : Good Try.prog 33 [(nrA x, false)] [] [(.b (!bad x), false)] [] := by
  refine good_of_body2 83 Try.func33 rfl rfl rfl (by simp) ?_
  intro s m ha hr hv hG
  have f0 : s 0 = .v (.agg [i64 x.of, i64 x.co, i64 x.bo, i64 x.ep, .b x.he, .b x.fu, i64 x.ag, .b x.go]) := ha 0 _ rfl
  clear ha
  have hc : True := trivial
  have F := (And.intro f0 hG)
  refine AW.seq ?_
  refine AW.region (cfg := cfg) ?_
  refine stp (fun _ h => sb h) ?_
  refine stp (fun _ h => s0 h) ?_
  refine aops_nil ?_
  refine AW.seq ?_
  refine AW.seq ?_
  refine AW.region (cfg := cfg) ?_
  refine stp (fun _ h => sx h) ?_
  refine stp (fun _ h => sl h) ?_
  iterate 2 refine stp (fun _ h => s0 h) ?_
  refine mrg wa (fun hc _ h => sx h) ?_
  refine mrg wa (fun hc _ h => sl h) ?_
  refine mrg wa (fun hc _ h => s0 h) ?_
  iterate 2 refine stp (fun _ h => s0 h) ?_
  refine mrg wa (fun hc _ h => sx h) ?_
  refine mrg wa (fun hc _ h => sl h) ?_
  refine mrg wa (fun hc _ h => s0 h) ?_
  iterate 2 refine stp (fun _ h => s0 h) ?_
  refine mrg wa (fun hc _ h => sx h) ?_
  refine mrg wa (fun hc _ h => sl h) ?_
  refine mrg wa (fun hc _ h => s0 h) ?_
  iterate 2 refine stp (fun _ h => s0 h) ?_
  refine mrg wa (fun hc _ h => sx h) ?_
  refine mrg wa (fun hc _ h => sl h) ?_
  refine mrg wa (fun hc _ h => s0 h) ?_
  iterate 2 refine stp (fun _ h => s0 h) ?_
  refine mrg wa (fun hc _ h => sx h) ?_
  refine mrg wa (fun hc _ h => sl h) ?_
  refine mrg wa (fun hc _ h => s0 h) ?_
  iterate 2 refine stp (fun _ h => s0 h) ?_
  refine mrg wa (fun hc _ h => sx h) ?_
  refine mrg wa (fun hc _ h => sl h) ?_
  refine mrg wa (fun hc _ h => s0 h) ?_
  iterate 2 refine stp (fun _ h => s0 h) ?_
  refine mrg wa (fun hc _ h => sx h) ?_
  refine mrg wa (fun hc _ h => sl h) ?_
  refine mrg wa (fun hc _ h => s0 h) ?_
  iterate 2 refine stp (fun _ h => s0 h) ?_
  refine mrg wa (fun hc _ h => sx h) ?_
  refine mrg wa (fun hc _ h => sl h) ?_
  refine mrg wa (fun hc _ h => s0 h) ?_
  iterate 2 refine stp (fun _ h => s0 h) ?_
  refine mrg wa (fun hc _ h => sx h) ?_
  refine mrg wa (fun hc _ h => sl h) ?_
  refine mrg wa (fun hc _ h => s0 h) ?_
  refine stp (fun _ h => s0 h) ?_
  refine aops_nil ?_
  refine cnd (fun hb => ?ht1) (fun hb => ?hf1)
  case ht1 =>
    have hw50 := hb
    try simp only [bo1, bo2, bo3, bo4, bo5, bo6] at hb
    have hbt50 := hb
    refine AW.seq ?_
    refine AW.region (cfg := cfg) ?_
    refine stp (fun _ h => s0 h) ?_
    refine aops_nil ?_
    refine AW.ret ?_
    refine ⟨.inr rfl, ?_⟩
    refine leaves_tmp1 2 rfl ?_ (by exact hG)
    simp (disch := first | omega | decide) only [go_sem, F, aIndex_map]
    clear hr hv hG f0
    obtain ⟨of, co, bo, ep, he, fu, ag, go⟩ := x
    all_goals (cases he <;> cases fu <;> cases go <;> simp_all [chk, bad, okA, wi] <;> omega)
  case hf1 =>
    have hw50 := hb
    try simp only [bo1, bo2, bo3, bo4, bo5, bo6] at hb
    have hbt50 := hb
    refine AW.skip ?_
    refine AW.seq ?_
    refine AW.seq ?_
    refine AW.region (cfg := cfg) ?_
    refine stp (fun _ h => sx h) ?_
    refine stp (fun _ h => sl h) ?_
    refine aops_nil ?_
    refine cnd (fun hb => ?ht2) (fun hb => ?hf2)
    case ht2 =>
      have hw52 := hb
      try simp only [bo1, bo2, bo3, bo4, bo5, bo6] at hb
      have hbt52 := hb
      refine AW.seq ?_
      refine AW.region (cfg := cfg) ?_
      refine stp (fun _ h => sx h) ?_
      refine stp (fun _ h => sl h) ?_
      iterate 2 refine stp (fun _ h => s0 h) ?_
      refine mrg wa (fun hc _ h => sx h) ?_
      refine mrg wa (fun hc _ h => sl h) ?_
      refine mrg wa (fun hc _ h => s0 h) ?_
      iterate 2 refine stp (fun _ h => s0 h) ?_
      refine mrg wa (fun hc _ h => sx h) ?_
      refine mrg wa (fun hc _ h => sl h) ?_
      refine mrg wa (fun hc _ h => s0 h) ?_
      refine mrg wa (fun hc _ h => sx h) ?_
      refine mrg wa (fun hc _ h => sl h) ?_
      iterate 2 refine mrg wa (fun hc _ h => s0 h) ?_
      iterate 2 refine stp (fun _ h => s0 h) ?_
      refine aops_nil ?_
      refine AW.ret ?_
      refine ⟨.inr rfl, ?_⟩
      refine leaves_tmp1 2 rfl ?_ (by exact hG)
      simp (disch := first | omega | decide) only [go_sem, F, aIndex_map]
      clear hr hv hG f0
      obtain ⟨of, co, bo, ep, he, fu, ag, go⟩ := x
      all_goals (cases he <;> cases fu <;> cases go <;> simp_all [chk, bad, okA, wi] <;> (rw [Bool.eq_iff_iff]; simp; omega))
    case hf2 =>
      have hw52 := hb
      try simp only [bo1, bo2, bo3, bo4, bo5, bo6] at hb
      have hbt52 := hb
      refine AW.skip ?_
      refine AW.seq ?_
      refine AW.region (cfg := cfg) ?_
      refine stp (fun _ h => sx h) ?_
      refine stp (fun _ h => sl h) ?_
      iterate 2 refine stp (fun _ h => s0 h) ?_
      refine mrg wa (fun hc _ h => sx h) ?_
      refine mrg wa (fun hc _ h => sl h) ?_
      refine mrg wa (fun hc _ h => s0 h) ?_
      iterate 2 refine stp (fun _ h => s0 h) ?_
      refine mrg wa (fun hc _ h => sx h) ?_
      refine mrg wa (fun hc _ h => sl h) ?_
      refine mrg wa (fun hc _ h => s0 h) ?_
      iterate 2 refine stp (fun _ h => s0 h) ?_
      refine aops_nil ?_
      refine AW.ret ?_
      refine ⟨.inr rfl, ?_⟩
      refine leaves_tmp1 2 rfl ?_ (by exact hG)
      simp (disch := first | omega | decide) only [go_sem, F, aIndex_map]
      clear hr hv hG f0
      obtain ⟨of, co, bo, ep, he, fu, ag, go⟩ := x
      all_goals (cases he <;> cases fu <;> cases go <;> simp_all [chk, bad, okA, wi] <;> (rw [Bool.eq_iff_iff]; simp; omega))
end Go.Vai.T
