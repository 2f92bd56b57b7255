/- BaseGets: the law returns true for every input, and each argument reads behind the call as it read before. No further condition. -/
import Derived.Test.YtdoomgohnocecaaRows
import Derived.Test.YtdoomgohnocecaaM5
import Derived.WalkKit
import Derived.ProofKit
import Derived.OpenShut
import Derived.ShutString
import Derived.ChangeOld
import Derived.Below
import Derived.SizedLaws
set_option linter.unusedSimpArgs false
set_option linter.unusedVariables false
namespace Go.Proofs.Ytdoomgohnocecaa.baseGets
open Go.ChangeShapes Go.WideShapes Go.ChangeAt Go.RowKit Go.Vai
open Go.ChangeMaps (open_string shut_string)
set_option linter.unusedVariables false
theorem own : ownKnob Try.prog.godebug = none := by kernel_rfl
theorem laidOut : laidOutB Try.prog = true := by kernel_rfl
set_option maxRecDepth 100000 in
theorem lifted (os : Os) (started : os.Started) (H : Type) (enc : TypeId × Value → H) :
  ReturnsInHanded {} Try.checked os 5 .any (Rows.baseGetsSpec.pre6 enc Try.prog Try.f5 Rows.baseGetsRow.domain false) (Rows.baseGetsSpec.post enc Try.prog Try.f5 false true false false) := by
 refine returnsInHanded_of_change_sized (C := Try.checked) own started (by kernel_rfl) Try.func5
  (ChangeSpec.witness6 (enc := enc) (C := Try.checked) false ⟨#[], #[.slice none 0 0], []⟩ 8 (by kernel_rfl) (by kernel_rfl) (by kernel_rfl) (by kernel_rfl)) ?_
 intro W base args ds gs before hval0 hW hcnd hsz0 _
 have hval : ∀ (j : Nat) t v, Try.f5.params[j]? = some t → args[j]? = some v → Value.okWide Try.prog W .any base t v := hval0
 have hW2 := hW
 obtain ⟨p, q, hA0, hV, rfl, hfz, hnd⟩ := hW
 have hA : DataW.TrodAll enc Try.prog W 0 (fun _ => true) true Try.f5.params.toList args.toList ds p := hA0
 rw [Try.params5] at hA hval
 obtain ⟨v0, vs0, d0, ds0, p0, q0, hargs, rfl, rfl, h0, r0⟩ := trodAll_cons hA
 obtain ⟨rfl, rfl, rfl⟩ := trodAll_nil r0
 obtain rfl : args = #[v0] := by cases args; simp_all
 obtain ⟨rfl, rfl⟩ := trodVars_none hV
 obtain ⟨a0, ⟨nil0, l0, e0, hl0, hz0⟩, R0⟩ := open_one (opens_bytes2 Try.underlying37 Try.underlying5 (by kernel_rfl)) Try.underlying37 rfl (hval 0 37 v0 rfl rfl) h0
 obtain rfl : a0 = .sl 1 nil0 (bsl l0) := by simpa using e0
 have lt0 : ∀ x ∈ p0, x.block < W.heap.size := by obtain ⟨m, hm⟩ := h0; exact DataW.trod_lt m _ _ _ hm
 clear hA0 hval0 hsz0
 have good := BA.good_BaseGets nil0 l0 (by have := hl0; unfold maxLen at this; omega) hz0
 refine (calls_of_good (avs := [.sl 1 nil0 (bsl l0)]) (vs := [v0]) good rfl (fun j a v ha hv => ?_)).mono fun e W2 ⟨he, bel⟩ => ?_
 ·match j, ha, hv with
  | 0, ha, hv => simp at ha hv; subst ha hv; exact R0
  | k + 1, ha, hv => simp at ha
 ·subst he
  exact ⟨_, rfl, _, _, _, [], _, [], hW2, trodAll_mk1 (shut_bool Try.underlying4 _), (trodAll_cons_mk (Below.trod laidOut (by kernel_rfl) (of_decide_eq_true (by kernel_rfl)) h0 bel lt0) trodAll_mk0), rfl, bel.frame _, fun h => by cases h⟩
theorem over : Rows.baseGetsRow.holds Try.pinned (OpenSpec.ofChange Rows.baseGetsSpec) :=
 OpenClaim.holds_of_wide 5 Try.f5 rfl rfl rfl rfl rfl rfl rfl ⟨rfl, rfl, rfl, rfl, rfl⟩ rfl rfl rfl rfl rfl (by kernel_rfl) Try.func5 (by kernel_rfl)
  (of_decide_eq_true (by kernel_rfl)) (by unfold Func.isWrapper; first | (rw [if_pos (by decide +kernel)]; kernel_rfl) | (rw [if_neg (by decide +kernel)]; exact ⟨rfl, rfl⟩))
  (fun os started H enc _ => lifted os started H enc)
theorem proved : Rows.BaseGetsSaid := over
end Go.Proofs.Ytdoomgohnocecaa.baseGets
namespace Go.Proofs.Ytdoomgohnocecaa
theorem baseGets_holds : Rows.BaseGetsSaid := baseGets.proved
end Go.Proofs.Ytdoomgohnocecaa
