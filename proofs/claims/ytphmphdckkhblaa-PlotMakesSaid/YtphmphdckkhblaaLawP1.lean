import Derived.Test.YtphmphdckkhblaaRows
import Derived.Test.YtphmphdckkhblaaPlotW
import Derived.WalkKit
import Derived.ProofKit
import Derived.OpenShut
import Derived.ShutString
import Derived.ChangeOld
import Derived.Below
import Derived.SizedLaws
set_option linter.unusedSimpArgs false
set_option linter.unusedVariables false
set_option linter.constructorNameAsVariable false
namespace Go.Proofs.Ytphmphdckkhblaa.plotMakes
open Go.ChangeShapes Go.WideShapes Go.ChangeAt Go.RowKit Go.Vai
open Go.ChangeMaps (open_string shut_string)
set_option linter.unusedVariables false
theorem own : ownKnob Try.prog.godebug = none := by kernel_rfl
theorem laidOut : laidOutB Try.prog = true := by kernel_rfl
set_option maxRecDepth 100000 in
theorem lifted (os : Os) (started : os.Started) (H : Type) (enc : TypeId × Value → H) :
    ReturnsInHanded {} Try.checked os 6 .any (Rows.plotMakesSpec.pre6 enc Try.prog Try.f6 Rows.plotMakesRow.domain false) (Rows.plotMakesSpec.post enc Try.prog Try.f6 false true false false) := by
  refine returnsInHanded_of_change_sized (C := Try.checked) own started (by kernel_rfl) Try.func6
    (ChangeSpec.witness6 (enc := enc) (C := Try.checked) false ⟨#[], #[.int .i64 0, .agg #[.int .i64 0, .int .i64 0, .int .i64 0], .agg #[.int .i64 0, .int .i64 0]], []⟩ 8 (by kernel_rfl) (by kernel_rfl) (by kernel_rfl) (by kernel_rfl)) ?_
  intro W base args ds gs before hval0 hW hcnd hsz0 _
  have hval : ∀ (j : Nat) t v, Try.f6.params[j]? = some t → args[j]? = some v → Value.okWide Try.prog W .any base t v := hval0
  have hW2 := hW
  obtain ⟨p, q, hA0, hV, rfl, hfz, hnd⟩ := hW
  have hA : DataW.TrodAll enc Try.prog W 0 (fun _ => true) true Try.f6.params.toList args.toList ds p := hA0
  rw [Try.params6] at hA hval
  obtain ⟨v0, vs0, d0, ds0, p0, q0, hargs, rfl, rfl, h0, r0⟩ := trodAll_cons hA
  obtain ⟨v1, vs1, d1, ds1, p1, q1, rfl, rfl, rfl, h1, r1⟩ := trodAll_cons r0
  obtain ⟨v2, vs2, d2, ds2, p2, q2, rfl, rfl, rfl, h2, r2⟩ := trodAll_cons r1
  obtain ⟨rfl, rfl, rfl⟩ := trodAll_nil r2
  obtain rfl : args = #[v0, v1, v2] := by cases args; simp_all
  obtain ⟨rfl, rfl⟩ := trodVars_none hV
  obtain ⟨a0, ⟨n0, e0, w0⟩, R0⟩ := open_one (opens_int Try.underlying3) Try.underlying3 rfl (hval 0 3 v0 rfl rfl) h0
  obtain rfl : a0 = .i .i64 n0 := by simpa using e0
  obtain ⟨_, ⟨_, _, rfl, ⟨n1_0, rfl, w1_0⟩, ⟨_, _, rfl, ⟨n1_1, rfl, w1_1⟩, ⟨_, _, rfl, ⟨n1_2, rfl, w1_2⟩, rfl⟩⟩⟩, R1⟩ := open_agg (opens_struct Try.underlying33 (n := 3) (by kernel_rfl) (opensFs_cons (k := 0) (s := 1) rfl (by kernel_rfl) (opens_int Try.underlying3) (opensFs_cons (k := 1) (s := 1) rfl (by kernel_rfl) (opens_int Try.underlying3) (opensFs_cons (k := 2) (s := 1) rfl (by kernel_rfl) (opens_int Try.underlying3) (opensFs_nil))))) Try.underlying33 rfl (hval 1 33 v1 rfl rfl) h1
  replace R1 : R (gh0 W) W (.agg [.i .i64 n1_0, .i .i64 n1_1, .i .i64 n1_2]) v1 := R1
  obtain ⟨_, ⟨ls2, rfl, hn2, ha2⟩, R2⟩ := open_agg (opens_array (s := 1) Try.underlying34 (by kernel_rfl) (by kernel_rfl) (opens_int Try.underlying3)) Try.underlying34 rfl (hval 2 34 v2 rfl rfl) h2
  obtain ⟨x2_0, x2_1, rfl⟩ : ∃ x2_0 x2_1, ls2 = [x2_0, x2_1] := by match ls2, hn2 with | [x2_0, x2_1], _ => exact ⟨x2_0, x2_1, rfl⟩
  obtain ⟨n2_0, rfl, w2_0⟩ := ha2 x2_0 (by simp)
  obtain ⟨n2_1, rfl, w2_1⟩ := ha2 x2_1 (by simp)
  replace R2 : R (gh0 W) W (.agg [.i .i64 n2_0, .i .i64 n2_1]) v2 := R2
  have lt0 : ∀ x ∈ p0, x.block < W.heap.size := by obtain ⟨m, hm⟩ := h0; exact DataW.trod_lt m _ _ _ hm
  have lt1 : ∀ x ∈ p1, x.block < W.heap.size := by obtain ⟨m, hm⟩ := h1; exact DataW.trod_lt m _ _ _ hm
  have lt2 : ∀ x ∈ p2, x.block < W.heap.size := by obtain ⟨m, hm⟩ := h2; exact DataW.trod_lt m _ _ _ hm
  clear hA0 hval0 hsz0
  have good := V.good_PlotMakes n0 n1_0 n1_1 n1_2 n2_0 n2_1
  refine (calls_of_good (avs := [.i .i64 n0, .agg [.i .i64 n1_0, .i .i64 n1_1, .i .i64 n1_2], .agg [.i .i64 n2_0, .i .i64 n2_1]]) (vs := [v0, v1, v2]) good rfl (fun j a v ha hv => ?_)).mono fun e W2 ⟨he, bel⟩ => ?_
  · match j, ha, hv with
    | 0, ha, hv => simp at ha hv; subst ha hv; exact R0
    | 1, ha, hv => simp at ha hv; subst ha hv; exact R1
    | 2, ha, hv => simp at ha hv; subst ha hv; exact R2
    | k + 3, ha, hv => simp at ha
  · subst he
    exact ⟨_, rfl, _, _, _, [], _, [], hW2, trodAll_mk1 (shut_bool Try.underlying4 _), (trodAll_cons_mk (Below.trod laidOut (by kernel_rfl) (of_decide_eq_true (by kernel_rfl)) h0 bel lt0) (trodAll_cons_mk (Below.trod laidOut (by kernel_rfl) (of_decide_eq_true (by kernel_rfl)) h1 bel lt1) (trodAll_cons_mk (Below.trod laidOut (by kernel_rfl) (of_decide_eq_true (by kernel_rfl)) h2 bel lt2) trodAll_mk0))), rfl, bel.frame _, fun h => by cases h⟩
theorem over : Rows.plotMakesRow.holds Try.pinned (OpenSpec.ofChange Rows.plotMakesSpec) :=
  OpenClaim.holds_of_wide 6 Try.f6 rfl rfl rfl rfl rfl rfl rfl ⟨rfl, rfl, rfl, rfl, rfl⟩ rfl rfl rfl rfl rfl (by kernel_rfl) Try.func6 (by kernel_rfl)
    (of_decide_eq_true (by kernel_rfl)) (by unfold Func.isWrapper; first | (rw [if_pos (by decide +kernel)]; kernel_rfl) | (rw [if_neg (by decide +kernel)]; exact ⟨rfl, rfl⟩))
    (fun os started H enc _ => lifted os started H enc)
theorem proved : Rows.PlotMakesSaid := over
end Go.Proofs.Ytphmphdckkhblaa.plotMakes
namespace Go.Proofs.Ytphmphdckkhblaa
/-- The row, under a short name, for the claim. -/
theorem plotMakes_holds : Rows.PlotMakesSaid := plotMakes.proved
end Go.Proofs.Ytphmphdckkhblaa
