/- AgeStays: the law returns true for every input, and each argument reads behind the call as it read before. No further condition. -/
import Derived.Test.YtbnpnljlfnaheaaRows
import Derived.Test.YtbnpnljlfnaheaapLAgeStays
import Derived.WalkKit
import Derived.ProofKit
import Derived.OpenShut
import Derived.ShutString
import Derived.ChangeOld
import Derived.Below
import Derived.SizedLaws
set_option linter.unusedSimpArgs false
set_option linter.unusedVariables false
namespace Go.Proofs.Ytbnpnljlfnaheaa.ageStays
open Go.ChangeShapes Go.WideShapes Go.ChangeAt Go.RowKit Go.Vai
open Go.ChangeMaps (open_string shut_string)
set_option linter.unusedVariables false
theorem own : ownKnob Try.prog.godebug = none := by kernel_rfl
theorem laidOut : laidOutB Try.prog = true := by kernel_rfl
set_option maxRecDepth 100000 in
theorem lifted (os : Os) (started : os.Started) (H : Type) (enc : TypeId × Value → H) :
  ReturnsInHanded {} Try.checked os 6 .any (Rows.ageStaysSpec.pre6 enc Try.prog Try.f6 Rows.ageStaysRow.domain false) (Rows.ageStaysSpec.post enc Try.prog Try.f6 false true false false) := by
 refine returnsInHanded_of_change_sized (C := Try.checked) own started (by kernel_rfl) Try.func6
  (ChangeSpec.witness6 (enc := enc) (C := Try.checked) false ⟨#[], #[.agg #[.int .i64 0, .int .i64 0], .slice none 0 0], []⟩ 8 (by kernel_rfl) (by kernel_rfl) (by kernel_rfl) (by kernel_rfl)) ?_
 intro W base args ds gs before hval0 hW hcnd hsz0 _
 have hval : ∀ (j : Nat) t v, Try.f6.params[j]? = some t → args[j]? = some v → Value.okWide Try.prog W .any base t v := hval0
 have hW2 := hW
 obtain ⟨p, q, hA0, hV, rfl, hfz, hnd⟩ := hW
 have hA : DataW.TrodAll enc Try.prog W 0 (fun _ => true) true Try.f6.params.toList args.toList ds p := hA0
 rw [Try.params6] at hA hval
 obtain ⟨v0, vs0, d0, ds0, p0, q0, hargs, rfl, rfl, h0, r0⟩ := trodAll_cons hA
 obtain ⟨v1, vs1, d1, ds1, p1, q1, rfl, rfl, rfl, h1, r1⟩ := trodAll_cons r0
 obtain ⟨rfl, rfl, rfl⟩ := trodAll_nil r1
 obtain rfl : args = #[v0, v1] := by cases args; simp_all
 obtain ⟨rfl, rfl⟩ := trodVars_none hV
 obtain ⟨_, ⟨_, _, rfl, ⟨n0_0, rfl, w0_0⟩, ⟨_, _, rfl, ⟨n0_1, rfl, w0_1⟩, rfl⟩⟩, R0⟩ := open_agg (opens_struct Try.underlying30 (n := 2) (by kernel_rfl) (opensFs_cons (k := 0) (s := 1) rfl (by kernel_rfl) (opens_int Try.underlying3) (opensFs_cons (k := 1) (s := 1) rfl (by kernel_rfl) (opens_int Try.underlying3) (opensFs_nil)))) Try.underlying30 rfl (hval 0 30 v0 rfl rfl) h0
 replace R0 : R (gh0 W) W (.agg [.i .i64 n0_0, .i .i64 n0_1]) v0 := R0
 obtain ⟨a1, ⟨nil1, l1, e1, hl1, hz1⟩, R1⟩ := open_one (opens_bytes2 Try.underlying23 Try.underlying5 (by kernel_rfl)) Try.underlying23 rfl (hval 1 23 v1 rfl rfl) h1
 obtain rfl : a1 = .sl 1 nil1 (bsl l1) := by simpa using e1
 have lt0 : ∀ x ∈ p0, x.block < W.heap.size := by obtain ⟨m, hm⟩ := h0; exact DataW.trod_lt m _ _ _ hm
 have lt1 : ∀ x ∈ p1, x.block < W.heap.size := by obtain ⟨m, hm⟩ := h1; exact DataW.trod_lt m _ _ _ hm
 clear hA0 hval0 hsz0
 have good := AG.good_AgeStays ⟨n0_0, n0_1⟩ nil1 l1 (by have := hl1; unfold maxLen at this; omega)
 refine (calls_of_good (avs := [.agg [.i .i64 n0_0, .i .i64 n0_1], .sl 1 nil1 (bsl l1)]) (vs := [v0, v1]) good rfl (fun j a v ha hv => ?_)).mono fun e W2 ⟨he, bel⟩ => ?_
 ·match j, ha, hv with
  | 0, ha, hv => simp at ha hv; subst ha hv; exact R0
  | 1, ha, hv => simp at ha hv; subst ha hv; exact R1
  | k + 2, ha, hv => simp at ha
 ·subst he
  exact ⟨_, rfl, _, _, _, [], _, [], hW2, trodAll_mk1 (shut_bool Try.underlying4 _), (trodAll_cons_mk (Below.trod laidOut (by kernel_rfl) (of_decide_eq_true (by kernel_rfl)) h0 bel lt0) (trodAll_cons_mk (Below.trod laidOut (by kernel_rfl) (of_decide_eq_true (by kernel_rfl)) h1 bel lt1) trodAll_mk0)), rfl, bel.frame _, fun h => by cases h⟩
theorem over : Rows.ageStaysRow.holds Try.pinned (OpenSpec.ofChange Rows.ageStaysSpec) :=
 OpenClaim.holds_of_wide 6 Try.f6 rfl rfl rfl rfl rfl rfl rfl ⟨rfl, rfl, rfl, rfl, rfl⟩ rfl rfl rfl rfl rfl (by kernel_rfl) Try.func6 (by kernel_rfl)
  (of_decide_eq_true (by kernel_rfl)) (by unfold Func.isWrapper; first | (rw [if_pos (by decide +kernel)]; kernel_rfl) | (rw [if_neg (by decide +kernel)]; exact ⟨rfl, rfl⟩))
  (fun os started H enc _ => lifted os started H enc)
theorem proved : Rows.AgeStaysSaid := over
end Go.Proofs.Ytbnpnljlfnaheaa.ageStays
namespace Go.Proofs.Ytbnpnljlfnaheaa
theorem ageStays_holds : Rows.AgeStaysSaid := ageStays.proved
end Go.Proofs.Ytbnpnljlfnaheaa
