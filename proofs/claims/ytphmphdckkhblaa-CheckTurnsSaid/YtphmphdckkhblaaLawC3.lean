import Derived.Test.YtphmphdckkhblaaRows
import Derived.Test.YtphmphdckkhblaaChkW
import Derived.WalkKit
import Derived.ProofKit
import Derived.OpenShut
import Derived.ShutString
import Derived.ChangeOld
import Derived.Below
import Derived.SizedLaws
set_option linter.unusedSimpArgs false
set_option linter.unusedVariables false
set_option linter.constructorNameAsVariable false
namespace Go.Proofs.Ytphmphdckkhblaa.checkTurns
open Go.ChangeShapes Go.WideShapes Go.ChangeAt Go.RowKit Go.Vai
open Go.ChangeMaps (open_string shut_string)
set_option linter.unusedVariables false
theorem own : ownKnob Try.prog.godebug = none := by kernel_rfl
theorem laidOut : laidOutB Try.prog = true := by kernel_rfl
set_option maxRecDepth 100000 in
theorem lifted (os : Os) (started : os.Started) (H : Type) (enc : TypeId × Value → H) :
    ReturnsInHanded {} Try.checked os 5 .any (Rows.checkTurnsSpec.pre6 enc Try.prog Try.f5 Rows.checkTurnsRow.domain false) (Rows.checkTurnsSpec.post enc Try.prog Try.f5 false true false false) := by
  refine returnsInHanded_of_change_sized (C := Try.checked) own started (by kernel_rfl) Try.func5
    (ChangeSpec.witness6 (enc := enc) (C := Try.checked) false ⟨#[], #[.slice none 0 0, .int .u16 0, .int .u32 0], []⟩ 8 (by kernel_rfl) (by kernel_rfl) (by kernel_rfl) (by kernel_rfl)) ?_
  intro W base args ds gs before hval0 hW hcnd hsz0 _
  have hval : ∀ (j : Nat) t v, Try.f5.params[j]? = some t → args[j]? = some v → Value.okWide Try.prog W .any base t v := hval0
  have hW2 := hW
  obtain ⟨p, q, hA0, hV, rfl, hfz, hnd⟩ := hW
  have hA : DataW.TrodAll enc Try.prog W 0 (fun _ => true) true Try.f5.params.toList args.toList ds p := hA0
  rw [Try.params5] at hA hval
  obtain ⟨v0, vs0, d0, ds0, p0, q0, hargs, rfl, rfl, h0, r0⟩ := trodAll_cons hA
  obtain ⟨v1, vs1, d1, ds1, p1, q1, rfl, rfl, rfl, h1, r1⟩ := trodAll_cons r0
  obtain ⟨v2, vs2, d2, ds2, p2, q2, rfl, rfl, rfl, h2, r2⟩ := trodAll_cons r1
  obtain ⟨rfl, rfl, rfl⟩ := trodAll_nil r2
  obtain rfl : args = #[v0, v1, v2] := by cases args; simp_all
  obtain ⟨rfl, rfl⟩ := trodVars_none hV
  obtain ⟨a0, ⟨nil0, l0, e0, hl0⟩, R0⟩ := open_one (opens_bytes Try.underlying22 Try.underlying5 (by kernel_rfl)) Try.underlying22 rfl (hval 0 22 v0 rfl rfl) h0
  obtain rfl : a0 = .sl 1 nil0 (bsl l0) := by simpa using e0
  obtain ⟨a1, ⟨n1, e1, w1⟩, R1⟩ := open_one (opens_int Try.underlying23) Try.underlying23 rfl (hval 1 23 v1 rfl rfl) h1
  obtain rfl : a1 = .i .u16 n1 := by simpa using e1
  obtain ⟨a2, ⟨n2, e2, w2⟩, R2⟩ := open_one (opens_int Try.underlying25) Try.underlying25 rfl (hval 2 25 v2 rfl rfl) h2
  obtain rfl : a2 = .i .u32 n2 := by simpa using e2
  obtain ⟨X2, rfl⟩ := wf_u32 w2
  have lt0 : ∀ x ∈ p0, x.block < W.heap.size := by obtain ⟨m, hm⟩ := h0; exact DataW.trod_lt m _ _ _ hm
  have lt1 : ∀ x ∈ p1, x.block < W.heap.size := by obtain ⟨m, hm⟩ := h1; exact DataW.trod_lt m _ _ _ hm
  have lt2 : ∀ x ∈ p2, x.block < W.heap.size := by obtain ⟨m, hm⟩ := h2; exact DataW.trod_lt m _ _ _ hm
  clear hA0 hval0 hsz0
  have good := U.good_CheckTurns nil0 l0 n1 X2 (by unfold maxLen at hl0; omega) (wf_u16 w1)
  refine (calls_of_good (avs := [.sl 1 nil0 (bsl l0), .i .u16 n1, u32 X2]) (vs := [v0, v1, v2]) good rfl (fun j a v ha hv => ?_)).mono fun e W2 ⟨he, bel⟩ => ?_
  · match j, ha, hv with
    | 0, ha, hv => simp at ha hv; subst ha hv; exact R0
    | 1, ha, hv => simp at ha hv; subst ha hv; exact R1
    | 2, ha, hv => simp at ha hv; subst ha hv; exact R2
    | k + 3, ha, hv => simp at ha
  · subst he
    exact ⟨_, rfl, _, _, _, [], _, [], hW2, trodAll_mk1 (shut_bool Try.underlying4 _), (trodAll_cons_mk (Below.trod laidOut (by kernel_rfl) (of_decide_eq_true (by kernel_rfl)) h0 bel lt0) (trodAll_cons_mk (Below.trod laidOut (by kernel_rfl) (of_decide_eq_true (by kernel_rfl)) h1 bel lt1) (trodAll_cons_mk (Below.trod laidOut (by kernel_rfl) (of_decide_eq_true (by kernel_rfl)) h2 bel lt2) trodAll_mk0))), rfl, bel.frame _, fun h => by cases h⟩
theorem over : Rows.checkTurnsRow.holds Try.pinned (OpenSpec.ofChange Rows.checkTurnsSpec) :=
  OpenClaim.holds_of_wide 5 Try.f5 rfl rfl rfl rfl rfl rfl rfl ⟨rfl, rfl, rfl, rfl, rfl⟩ rfl rfl rfl rfl rfl (by kernel_rfl) Try.func5 (by kernel_rfl)
    (of_decide_eq_true (by kernel_rfl)) (by unfold Func.isWrapper; first | (rw [if_pos (by decide +kernel)]; kernel_rfl) | (rw [if_neg (by decide +kernel)]; exact ⟨rfl, rfl⟩))
    (fun os started H enc _ => lifted os started H enc)
theorem proved : Rows.CheckTurnsSaid := over
end Go.Proofs.Ytphmphdckkhblaa.checkTurns
namespace Go.Proofs.Ytphmphdckkhblaa
/-- The row, under a short name, for the claim. -/
theorem checkTurns_holds : Rows.CheckTurnsSaid := checkTurns.proved
end Go.Proofs.Ytphmphdckkhblaa
