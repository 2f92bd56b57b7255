import Derived.Test.YtpmgmlbpbnefeaahTab2
namespace Go.Vai.T
open Go.Proofs Go.Vai
set_option linter.unusedSimpArgs false
set_option linter.unusedVariables false

set_option maxHeartbeats 4000000 in
set_option maxRecDepth 100000 in
theorem good_InsNil (x : Nr) : Good Try.prog 36 [(.sl 8 true [], false), (i64 0, false), (.sl 8 false [nrA x], false)] [] [(.sl 8 false [nrA x], true)] [] := by
 refine good_of_body2 95 Try.func36 rfl rfl rfl (by simp) ?_
 intro s m ha hr hv hG
 have f0 : s 0 = .v (.sl 8 true []) := ha 0 _ rfl
 have f1 : s 1 = .v (i64 0) := ha 1 _ rfl
 have f2 : s 2 = .v (.sl 8 false [nrA x]) := ha 2 _ rfl
 clear ha
 refine AW.sr (cfg := cfg) ?_
 iterate 1 (apply aops_step (by decide) rfl; · (intro K hK; simp (disch := first | omega | decide) only [go_sem, f0, f1, f2, sz22, List.length_nil, List.length_cons]; exact hK _))
 refine aops_nil ?_
 refine AW.sr (cfg := cfg) ?_
 iterate 3 (apply aops_step (by decide) rfl; · (intro K hK; simp (disch := first | omega | decide) only [go_sem, f0, f1, f2, act_slice_s u22 ti36, List.length_nil, List.length_cons]; exact hK _))
 refine aops_nil ?_
 refine AW.sr (cfg := cfg) ?_
 iterate 3 (apply aops_step (by decide) rfl; · (intro K hK; simp (disch := first | omega | decide) only [go_sem, f0, f1, f2, List.map, List.length_map, aops_len u22, List.length_nil, List.length_cons]; exact hK _))
 refine aops_nil ?_
 refine AW.seq ?_
 refine AW.sr (cfg := cfg) ?_
 iterate 2 (apply aops_step (by decide) rfl; · (intro K hK; simp (disch := first | omega | decide) only [go_sem, f0, f1, f2, List.length_nil, List.length_cons]; exact hK _))
 refine aops_nil ?_
 apply AW.cond
 ·(simp only [go_sem, f0, f1, f2, List.length_nil, List.length_cons]; rfl)
 case ht => intro hb; (simp at hb; done)
 case hf =>
 intro hb
 have hbt16 := hb
 refine AW.skip ?_
 refine AW.sr (cfg := cfg) ?_
 iterate 3 (apply aops_step (by decide) rfl; · (intro K hK; simp (disch := first | omega | decide) only [go_sem, f0, f1, f2, List.map, List.length_map, aops_len u22, List.length_nil, List.length_cons]; exact hK _))
 refine aops_nil ?_
 refine AW.seq ?_
 refine AW.sr (cfg := cfg) ?_
 iterate 3 (apply aops_step (by decide) rfl; · (intro K hK; simp (disch := first | omega | decide) only [go_sem, f0, f1, f2, List.length_nil, List.length_cons]; exact hK _))
 refine aops_nil ?_
 apply AW.cond
 ·(simp only [go_sem, f0, f1, f2, List.length_nil, List.length_cons]; rfl)
 case hf => intro hb; (simp at hb; done)
 case ht =>
 intro hb
 have hbt22 := hb
 refine AW.sr (cfg := cfg) ?_
 iterate 2 (apply aops_step (by decide) rfl; · (intro K hK; simp (disch := first | omega | decide) only [go_sem, f0, f1, f2, List.length_nil, List.length_cons]; exact hK _))
 apply aops_step (by decide) rfl
 ·intro K hK
  simp (disch := first | omega | decide) only [go_sem, f0, f1, f2, List.map]
  refine mwp_append0 (ys := [nrA x]) el22 ti36 u22 (fun Q hQ => hQ) rfl (by simp [roomB]) (by intro y hy; rw [List.mem_singleton.1 hy]; rfl) ?_
  exact hK _
 apply aops_step (by decide) rfl
 ·intro K hK
  simp (disch := first | omega | decide) only [go_sem, f0, f1, f2, List.length_nil, List.length_cons]
  rw [asg_tmp (by simp (disch := first | omega | decide) only [go_sem, f0, f1, f2, List.length_nil, List.length_cons]; rfl)]
  exact hK _
 refine aops_nil ?_
 refine AW.ret ?_
 refine ⟨.inr rfl, ?_⟩
 refine leaves_own1 6 rfl (by simp (disch := first | omega | decide) only [go_sem, f0, f1, f2, List.length_nil, List.length_cons] <;> rfl) (by simp (disch := first | omega | decide) only [go_sem, f0, f1, f2, List.length_nil, List.length_cons] <;> rfl) (by decide) (by simp [sub]) (by exact hG)

end Go.Vai.T
