import Derived.Test.YtheihmlgnldijaatOwn3
namespace Go.Vai.OW
open Go.Proofs Go.Vai Go.Vai.D Go.Vai.DB Go.Vai.I Go.Vai.L Go.Vai.N Go.Vai.O Go.Vai.S Go.Vai.T
set_option linter.unusedSimpArgs false
set_option linter.unusedVariables false
set_option maxHeartbeats 4000000
set_option maxRecDepth 100000
theorem good_P0 : Good Try.prog 16 [(.sl 0 true [], false), (i64 2, false), (.sl 0 true [], false), (.agg [i64 1, i64 0], false)] [] [(.sl 6 false [.agg [i64 2, i64 0, i64 0, .sl 2 true [], i64 8, i64 0], .agg [i64 1, i64 2, i64 1, .sl 2 true [], i64 0, i64 0]], false), (.agg [i64 2, i64 8], false), (i64 0, false)] [] := by
  have c := good_PlanO true [] (by simp) (fun y hy => absurd hy (by simp)) (by simp) 2 true [] (by simp) 1 0 (by omega) (by omega)
  rw [plan0] at c
  exact gnil2 c.nil0
theorem good_M0 : Good Try.prog 7 [(.sl 0 true [], false), (i64 2, false), (.sl 0 true [], false), (i64 1, false)] [] [(.b true, false)] [] := by
  have c := good_MustO true [] (by simp) (fun y hy => absurd hy (by simp)) 2 true [] (by simp) 1
  rw [must0] at c
  exact gnil2 c.nil0
attribute [go_sem] List.isEmpty_cons beq_self_eq_true Bool.and_self List.length_cons List.length_nil
theorem good_awakeO  : Good Try.prog 6 [] [] [(.b true, false)] [] := by
  refine good_of_body4 40 Try.func6 rfl rfl rfl (by simp) (by simp) (by simp [noPtrL, noPtr]) (by rfl) ?_
  intro s m ha hr hv hG
  clear ha
  have hc : True := trivial
  have F := hG
  refine AW.seq ?_
  refine AW.region (cfg := cfg) ?_
  refine stp (fun _ h => s0 h) ?_
  refine aops_nil ?_
  refine AW.seq ?_
  refine AW.region (cfg := cfg) ?_
  refine stp (fun _ h => su h) ?_
  refine stp (fun _ h => cr (w := good_P0) (x := h)) ?_
  iterate 4 refine stp (fun _ h => s0 h) ?_
  refine stp (fun _ h => sd h) ?_
  refine stp (fun _ h => s0 h) ?_
  refine stp0 (fun _ h => ss h) ?_
  refine stp (fun _ h => s0 h) ?_
  refine aops_nil ?_
  refine AW.seq ?_
  refine AW.region (cfg := cfg) ?_
  refine stp (fun _ h => cs (w := good_M0) (x := h)) ?_
  iterate 6 refine stp (fun _ h => s0 h) ?_
  refine stp (fun _ h => sd h) ?_
  iterate 4 refine stp (fun _ h => s0 h) ?_
  refine stp (fun _ h => si h) ?_
  refine stp (fun _ h => sx h) ?_
  refine stp (fun _ h => sl h) ?_
  iterate 4 refine stp (fun _ h => s0 h) ?_
  refine stp (fun _ h => si h) ?_
  iterate 2 refine stp (fun _ h => sx h) ?_
  refine stp (fun _ h => sl h) ?_
  iterate 3 refine stp (fun _ h => s0 h) ?_
  refine stp (fun _ h => sl h) ?_
  refine stp (fun _ h => su h) ?_
  iterate 3 refine stp (fun _ h => s0 h) ?_
  refine aops_nil ?_
  refine AW.ret ?_
  refine ⟨.inr rfl, ?_⟩
  apply Exists.intro
  refine leaves_tmp1 0 rfl ?_ (by rfl)
  simp (disch := first | omega | decide) only [go_sem, F, aIndex_map]
  all_goals rfl
end Go.Vai.OW
