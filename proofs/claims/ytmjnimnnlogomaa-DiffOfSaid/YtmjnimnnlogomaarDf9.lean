import Derived.Test.YtmjnimnnlogomaarDf7
import Derived.Test.YtmjnimnnlogomaarDf8
import Derived.Test.YtmjnimnnlogomaarDb9
import Derived.Test.YtmjnimnnlogomaaDfPl2
namespace Go.Vai.DB
open Go.Proofs Go.Vai Go.Vai.D Go.Vai.I Go.Vai.L Go.Vai.N Go.Vai.O
set_option linter.unusedSimpArgs false
set_option linter.unusedVariables false
set_option maxHeartbeats 4000000
set_option maxRecDepth 100000
def z0 : Lsa := ⟨2, 3, true, []⟩
def d0 : Dl := ⟨true, [], false, [2], true, []⟩
theorem z_all : ∀ y ∈ [z0], fit y := fun y hy => by
  rw [List.mem_singleton] at hy; subst hy; exact ⟨by decide, fun _ => rfl⟩
theorem n_all : ∀ y ∈ ([] : List Lsa), fit y := fun y hy => absurd hy (by simp)
theorem of0 : ofR [z0] [] = (d0, 0) := by rfl
theorem good_Of0 : Good Try.prog 8 [(.sl 3 false ([z0].map lsaA), false), (.sl 0 true [], false)] [] [(dlA d0, false), (i64 0, false)] [] := by
  have c := good_OfDf false [z0] (by simp) z_all true [] (by simp) n_all
  rw [of0] at c
  exact c.nil1
theorem good_E0 : Good Try.prog 10 [(dlA d0, false)] [] [(.b false, false)] [] := good_EmptyDf d0 (by decide) (by decide) (by decide)
theorem good_E1 : Good Try.prog 10 [(dlA dl0, false)] [] [(.b true, false)] [] := good_EmptyDf dl0 (by decide) (by decide) (by decide)
attribute [go_sem] List.isEmpty_cons beq_self_eq_true Bool.and_self List.length_cons List.length_nil
theorem good_awakeDf  : Good Try.prog 7 [] [] [(.b true, false)] [] := by
  refine good_of_body4 33 Try.func7 rfl rfl rfl (by simp) (by simp) (by simp [noPtrL, noPtr]) (by rfl) ?_
  intro s m ha hr hv hG
  clear ha
  have hc : True := trivial
  have F := hG
  refine AW.seq ?_
  refine AW.region (cfg := cfg) ?_
  refine stp (fun _ h => s0 h) ?_
  refine aops_nil ?_
  refine AW.seq ?_
  refine AW.region (cfg := cfg) ?_
  refine stp (fun _ h => su h) ?_
  refine stp (fun _ h => sq h) ?_
  refine stp (fun _ h => cr (w := good_Of0) (x := h)) ?_
  iterate 3 refine stp (fun _ h => s0 h) ?_
  refine stp (fun _ h => sd h) ?_
  refine stp0 (fun _ h => ss h) ?_
  refine stp (fun _ h => s0 h) ?_
  refine aops_nil ?_
  refine AW.seq ?_
  refine AW.region (cfg := cfg) ?_
  iterate 3 refine stp (fun _ h => s0 h) ?_
  refine stp (fun _ h => sx h) ?_
  refine stp (fun _ h => sl h) ?_
  refine stp (fun _ h => sd h) ?_
  iterate 3 refine stp (fun _ h => s0 h) ?_
  refine stp (fun _ h => sx h) ?_
  refine stp (fun _ h => sl h) ?_
  refine stp (fun _ h => si h) ?_
  refine stp (fun _ h => sl h) ?_
  iterate 3 refine stp (fun _ h => s0 h) ?_
  refine stp (fun _ h => sl h) ?_
  refine stp (fun _ h => cs (w := good_E0) (x := h)) ?_
  iterate 3 refine stp (fun _ h => s0 h) ?_
  refine stp (fun _ h => su h) ?_
  refine stp (fun _ h => cs (w := good_E1) (x := h)) ?_
  iterate 2 refine stp (fun _ h => s0 h) ?_
  refine aops_nil ?_
  refine AW.ret ?_
  refine ⟨.inr rfl, ?_⟩
  apply Exists.intro
  refine leaves_tmp1 0 rfl ?_ (by rfl)
  simp (disch := first | omega | decide) only [go_sem, F, aIndex_map]
  all_goals rfl
end Go.Vai.DB
