import Derived.Test.YtblgcekomnnfmaagLsa4
import Derived.Test.YtblgcekomnnfmaaLsaPl2
namespace Go.Vai.L
open Go.Proofs Go.Vai Go.Vai.O
set_option linter.unusedSimpArgs false
set_option linter.unusedVariables false


set_option maxHeartbeats 4000000 in
set_option maxRecDepth 100000 in
theorem good_Light (x : Lsa) (hx : x.ls.length ≤ 9223372036854775807) : Good Try.prog 43 [(lsaA x, false)] [] [(.b (decide ((x.ls.length : Int) ≤ 40)), false)] [] := by
 refine good_of_body2 7 Try.func43 rfl rfl rfl (by simp) ?_
 intro s m ha hr hv hG
 have f0 : s 0 = .v (.agg [i64 x.o, i64 x.s, .sl 2 x.nil (x.ls.map linkA)]) := ha 0 _ rfl
 clear ha
 refine AW.sr (cfg := cfg) ?_
 apply aops_step (by decide) rfl
 ·intro K hK
  simp (disch := first | omega | decide) only [go_sem, f0, act_box_t ti79, List.map]
  rw [settleL_vish _ _ (by rfl)]
  simp (disch := first | omega | decide) only [go_sem, f0, cellsL, List.map, List.length_cons, List.length_nil, Nat.reduceAdd, if_true]
  exact hK _
 iterate 1 (apply aops_step (by decide) rfl; · (intro K hK; simp (disch := first | omega | decide) only [go_sem, f0]; exact hK _))
 refine aops_nil ?_
 refine AW.sr (cfg := cfg) ?_
 refine aops_fl (by decide) (by decide) fo79_2 ti77 (by simp only [go_sem, f0]; rfl) (by simp only [go_sem, f0]; rfl) (by rfl) ?_
 iterate 3 (apply aops_step (by decide) rfl; · (intro K hK; simp (disch := first | omega | decide) only [go_sem, f0, List.map, List.length_map, aops_len u77]; exact hK _))
 refine aops_nil ?_
 refine AW.ret ?_
 refine ⟨.inr rfl, ?_⟩
 refine leaves_tmp1 2 rfl ?_ (by exact hG)
 simp (disch := first | omega | decide) only [go_sem, f0]
 all_goals first | done | rfl | trace_state

end Go.Vai.L
