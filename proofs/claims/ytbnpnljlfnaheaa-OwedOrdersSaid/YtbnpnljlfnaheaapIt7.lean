import Derived.Test.YtbnpnljlfnaheaapIt6
namespace Go.Vai.IT
open Go.Proofs Go.Vai Go.Vai.I Go.Vai.N
set_option linter.unusedSimpArgs false
set_option linter.unusedVariables false
set_option maxHeartbeats 4000000
set_option maxRecDepth 100000
def i5 : It := ⟨2, 5⟩
def i4 : It := ⟨2, 4⟩
theorem aw1 : oweR true [] [i5] = (false, [i5], 0) := by decide
theorem aw2 : payR false [i5] [i4] = (false, [i5], 0) := by decide
theorem aw3 : payR false [i5] [i5] = (false, [], 0) := by decide
theorem good_aw1 : Good Try.prog 9 [(.sl 0 true [], false), (.sl 2 false ([i5].map itA), false)] [] [(.sl 2 false ([i5].map itA), false), (i64 0, false)] [] := by
  have c := good_Owe true [] (by simp) (by simp) false [i5] (by simp)
  rw [aw1] at c
  exact c.nil0
theorem good_aw2 : Good Try.prog 10 [(.sl 2 false ([i5].map itA), false), (.sl 2 false ([i4].map itA), false)] [] [(.sl 2 false ([i5].map itA), false), (i64 0, false)] [] := by
  have c := good_Paid false [i5] (by simp) (by simp) false [i4] (by simp)
  rw [aw2] at c
  exact c
theorem good_aw3 : Good Try.prog 10 [(.sl 2 false ([i5].map itA), false), (.sl 2 false ([i5].map itA), false)] [] [(.sl 2 false ([] : List AV), false), (i64 0, false)] [] := by
  have c := good_Paid false [i5] (by simp) (by simp) false [i5] (by simp)
  rw [aw3] at c
  exact c
theorem good_awakeI  : Good Try.prog 8 [] [] [(.b true, false)] [] := by
  refine good_of_body4 47 Try.func8 rfl rfl rfl (by simp) (by simp) (by simp [noPtrL, noPtr]) (by rfl) ?_
  intro s m ha hr hv hG
  clear ha
  have hc : True := trivial
  have F := hG
  refine AW.seq ?_
  refine AW.region (cfg := cfg) ?_
  refine stp (fun _ h => s0 h) ?_
  refine aops_nil ?_
  refine AW.seq ?_
  refine AW.region (cfg := cfg) ?_
  refine stp (fun _ h => su h) ?_
  refine stp (fun _ h => sq h) ?_
  refine stp (fun _ h => cr (w := good_aw1) (x := h)) ?_
  iterate 5 refine stp (fun _ h => s0 h) ?_
  refine aops_nil ?_
  refine AW.seq ?_
  refine AW.region (cfg := cfg) ?_
  refine stp (fun _ h => s0 h) ?_
  refine stp (fun _ h => su h) ?_
  refine stp (fun _ h => sq h) ?_
  refine stp (fun _ h => cr (w := good_aw2) (x := h)) ?_
  iterate 5 refine stp (fun _ h => s0 h) ?_
  refine aops_nil ?_
  refine AW.seq ?_
  refine AW.region (cfg := cfg) ?_
  refine stp (fun _ h => s0 h) ?_
  refine stp (fun _ h => su h) ?_
  refine stp (fun _ h => sq h) ?_
  refine stp (fun _ h => cr (w := good_aw3) (x := h)) ?_
  iterate 5 refine stp (fun _ h => s0 h) ?_
  refine aops_nil ?_
  refine AW.seq ?_
  refine AW.region (cfg := cfg) ?_
  iterate 12 refine stp (fun _ h => s0 h) ?_
  refine stp (fun _ h => sd h) ?_
  iterate 4 refine stp (fun _ h => s0 h) ?_
  refine stp (fun _ h => sd h) ?_
  iterate 3 refine stp (fun _ h => s0 h) ?_
  refine aops_nil ?_
  refine AW.ret ?_
  refine ⟨.inr rfl, ?_⟩
  apply Exists.intro
  refine leaves_tmp1 0 rfl ?_ (by rfl)
  simp (disch := first | omega | decide) only [go_sem, F, aIndex_map]
  all_goals rfl
end Go.Vai.IT
