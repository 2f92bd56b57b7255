/- RecordMixes: the law returns true for every input, and each argument reads behind the call as it read before. No further condition. -/
import Derived.Test.YtompjoadhhjddaaRows
import Derived.Test.YtompjoadhhjddaabLRecordMixes
import Derived.WalkKit
import Derived.ProofKit
import Derived.OpenShut
import Derived.ShutString
import Derived.ChangeOld
import Derived.Below
import Derived.SizedLaws
set_option linter.unusedSimpArgs false
set_option linter.unusedVariables false
set_option linter.constructorNameAsVariable false
namespace Go.Proofs.Ytompjoadhhjddaa.recordMixes
open Go.ChangeShapes Go.WideShapes Go.ChangeAt Go.RowKit Go.Vai
open Go.ChangeMaps (open_string shut_string)
set_option linter.unusedVariables false
theorem own : ownKnob Try.prog.godebug = none := by kernel_rfl
theorem laidOut : laidOutB Try.prog = true := by kernel_rfl
set_option maxRecDepth 100000 in
theorem lifted (os : Os) (started : os.Started) (H : Type) (enc : TypeId × Value → H) :
    ReturnsInHanded {} Try.checked os 8 .any (Rows.recordMixesSpec.pre6 enc Try.prog Try.f8 Rows.recordMixesRow.domain false) (Rows.recordMixesSpec.post enc Try.prog Try.f8 false true false false) := by
  refine returnsInHanded_of_change_sized (C := Try.checked) own started (by kernel_rfl) Try.func8
    (ChangeSpec.witness6 (enc := enc) (C := Try.checked) false ⟨#[], #[.agg #[.int .i64 0, .int .i64 0, .int .i64 0, .int .i64 0, .int .i64 0, .int .i64 0, .slice none 0 0], .agg #[.int .i64 0, .int .i64 0, .int .i64 0, .int .i64 0, .int .i64 0, .int .i64 0, .slice none 0 0], .agg #[.slice none 0 0, .slice none 0 0, .int .u8 0]], []⟩ 8 (by kernel_rfl) (by kernel_rfl) (by kernel_rfl) (by kernel_rfl)) ?_
  intro W base args ds gs before hval0 hW hcnd hsz0 _
  have hval : ∀ (j : Nat) t v, Try.f8.params[j]? = some t → args[j]? = some v → Value.okWide Try.prog W .any base t v := hval0
  have hW2 := hW
  obtain ⟨p, q, hA0, hV, rfl, hfz, hnd⟩ := hW
  have hA : DataW.TrodAll enc Try.prog W 0 (fun _ => true) true Try.f8.params.toList args.toList ds p := hA0
  rw [Try.params8] at hA hval
  obtain ⟨v0, vs0, d0, ds0, p0, q0, hargs, rfl, rfl, h0, r0⟩ := trodAll_cons hA
  obtain ⟨v1, vs1, d1, ds1, p1, q1, rfl, rfl, rfl, h1, r1⟩ := trodAll_cons r0
  obtain ⟨v2, vs2, d2, ds2, p2, q2, rfl, rfl, rfl, h2, r2⟩ := trodAll_cons r1
  obtain ⟨rfl, rfl, rfl⟩ := trodAll_nil r2
  obtain rfl : args = #[v0, v1, v2] := by cases args; simp_all
  obtain ⟨rfl, rfl⟩ := trodVars_none hV
  obtain ⟨_, ⟨_, _, rfl, ⟨n0_0, rfl, w0_0⟩, ⟨_, _, rfl, ⟨n0_1, rfl, w0_1⟩, ⟨_, _, rfl, ⟨n0_2, rfl, w0_2⟩, ⟨_, _, rfl, ⟨n0_3, rfl, w0_3⟩, ⟨_, _, rfl, ⟨n0_4, rfl, w0_4⟩, ⟨_, _, rfl, ⟨n0_5, rfl, w0_5⟩, ⟨_, _, rfl, ⟨nil0_6, l0_6, rfl, hl0_6, hz0_6⟩, rfl⟩⟩⟩⟩⟩⟩⟩, R0⟩ := open_agg (opens_struct Try.underlying47 (n := 7) (by kernel_rfl) (opensFs_cons (k := 0) (s := 1) rfl (by kernel_rfl) (opens_int Try.underlying3) (opensFs_cons (k := 1) (s := 1) rfl (by kernel_rfl) (opens_int Try.underlying3) (opensFs_cons (k := 2) (s := 1) rfl (by kernel_rfl) (opens_int Try.underlying3) (opensFs_cons (k := 3) (s := 1) rfl (by kernel_rfl) (opens_int Try.underlying3) (opensFs_cons (k := 4) (s := 1) rfl (by kernel_rfl) (opens_int Try.underlying3) (opensFs_cons (k := 5) (s := 1) rfl (by kernel_rfl) (opens_int Try.underlying3) (opensFs_cons (k := 6) (s := 1) rfl (by kernel_rfl) (opens_bytes2 Try.underlying25 Try.underlying5 (by kernel_rfl)) (opensFs_nil))))))))) Try.underlying47 rfl (hval 0 47 v0 rfl rfl) h0
  replace R0 : R (gh0 W) W (.agg [.i .i64 n0_0, .i .i64 n0_1, .i .i64 n0_2, .i .i64 n0_3, .i .i64 n0_4, .i .i64 n0_5, .sl 1 nil0_6 (bsl l0_6)]) v0 := R0
  obtain ⟨_, ⟨_, _, rfl, ⟨n1_0, rfl, w1_0⟩, ⟨_, _, rfl, ⟨n1_1, rfl, w1_1⟩, ⟨_, _, rfl, ⟨n1_2, rfl, w1_2⟩, ⟨_, _, rfl, ⟨n1_3, rfl, w1_3⟩, ⟨_, _, rfl, ⟨n1_4, rfl, w1_4⟩, ⟨_, _, rfl, ⟨n1_5, rfl, w1_5⟩, ⟨_, _, rfl, ⟨nil1_6, l1_6, rfl, hl1_6, hz1_6⟩, rfl⟩⟩⟩⟩⟩⟩⟩, R1⟩ := open_agg (opens_struct Try.underlying47 (n := 7) (by kernel_rfl) (opensFs_cons (k := 0) (s := 1) rfl (by kernel_rfl) (opens_int Try.underlying3) (opensFs_cons (k := 1) (s := 1) rfl (by kernel_rfl) (opens_int Try.underlying3) (opensFs_cons (k := 2) (s := 1) rfl (by kernel_rfl) (opens_int Try.underlying3) (opensFs_cons (k := 3) (s := 1) rfl (by kernel_rfl) (opens_int Try.underlying3) (opensFs_cons (k := 4) (s := 1) rfl (by kernel_rfl) (opens_int Try.underlying3) (opensFs_cons (k := 5) (s := 1) rfl (by kernel_rfl) (opens_int Try.underlying3) (opensFs_cons (k := 6) (s := 1) rfl (by kernel_rfl) (opens_bytes2 Try.underlying25 Try.underlying5 (by kernel_rfl)) (opensFs_nil))))))))) Try.underlying47 rfl (hval 1 47 v1 rfl rfl) h1
  replace R1 : R (gh0 W) W (.agg [.i .i64 n1_0, .i .i64 n1_1, .i .i64 n1_2, .i .i64 n1_3, .i .i64 n1_4, .i .i64 n1_5, .sl 1 nil1_6 (bsl l1_6)]) v1 := R1
  obtain ⟨_, ⟨_, _, rfl, ⟨nil2_0, l2_0, rfl, hl2_0, hz2_0⟩, ⟨_, _, rfl, ⟨nil2_1, l2_1, rfl, hl2_1, hz2_1⟩, ⟨_, _, rfl, ⟨n2_2, rfl, w2_2⟩, rfl⟩⟩⟩, R2⟩ := open_agg (opens_struct Try.underlying63 (n := 3) (by kernel_rfl) (opensFs_cons (k := 0) (s := 1) rfl (by kernel_rfl) (opens_bytes2 Try.underlying25 Try.underlying5 (by kernel_rfl)) (opensFs_cons (k := 1) (s := 1) rfl (by kernel_rfl) (opens_bytes2 Try.underlying25 Try.underlying5 (by kernel_rfl)) (opensFs_cons (k := 2) (s := 1) rfl (by kernel_rfl) (opens_int Try.underlying5) (opensFs_nil))))) Try.underlying63 rfl (hval 2 63 v2 rfl rfl) h2
  replace R2 : R (gh0 W) W (.agg [.sl 1 nil2_0 (bsl l2_0), .sl 1 nil2_1 (bsl l2_1), .i .u8 n2_2]) v2 := R2
  have lt0 : ∀ x ∈ p0, x.block < W.heap.size := by obtain ⟨m, hm⟩ := h0; exact DataW.trod_lt m _ _ _ hm
  have lt1 : ∀ x ∈ p1, x.block < W.heap.size := by obtain ⟨m, hm⟩ := h1; exact DataW.trod_lt m _ _ _ hm
  have lt2 : ∀ x ∈ p2, x.block < W.heap.size := by obtain ⟨m, hm⟩ := h2; exact DataW.trod_lt m _ _ _ hm
  clear hA0 hval0 hsz0
  have good := R.good_RecordMixes ⟨n0_0, n0_1, n0_2, n0_3, n0_4, n0_5, nil0_6, l0_6⟩ (by have := hl0_6; unfold maxLen at this; omega) (wf_i64 w0_3) ⟨n1_0, n1_1, n1_2, n1_3, n1_4, n1_5, nil1_6, l1_6⟩ (by have := hl1_6; unfold maxLen at this; omega) (wf_i64 w1_3) nil2_0 l2_0 (by have := hl2_0; unfold maxLen at this; omega) hz2_0 nil2_1 l2_1 (by have := hl2_1; unfold maxLen at this; omega) hz2_1 n2_2 (wf_u8 w2_2)
  refine (calls_of_good (avs := [.agg [.i .i64 n0_0, .i .i64 n0_1, .i .i64 n0_2, .i .i64 n0_3, .i .i64 n0_4, .i .i64 n0_5, .sl 1 nil0_6 (bsl l0_6)], .agg [.i .i64 n1_0, .i .i64 n1_1, .i .i64 n1_2, .i .i64 n1_3, .i .i64 n1_4, .i .i64 n1_5, .sl 1 nil1_6 (bsl l1_6)], .agg [.sl 1 nil2_0 (bsl l2_0), .sl 1 nil2_1 (bsl l2_1), .i .u8 n2_2]]) (vs := [v0, v1, v2]) good rfl (fun j a v ha hv => ?_)).mono fun e W2 ⟨he, bel⟩ => ?_
  · match j, ha, hv with
    | 0, ha, hv => simp at ha hv; subst ha hv; exact R0
    | 1, ha, hv => simp at ha hv; subst ha hv; exact R1
    | 2, ha, hv => simp at ha hv; subst ha hv; exact R2
    | k + 3, ha, hv => simp at ha
  · subst he
    exact ⟨_, rfl, _, _, _, [], _, [], hW2, trodAll_mk1 (shut_bool Try.underlying4 _), (trodAll_cons_mk (Below.trod laidOut (by kernel_rfl) (of_decide_eq_true (by kernel_rfl)) h0 bel lt0) (trodAll_cons_mk (Below.trod laidOut (by kernel_rfl) (of_decide_eq_true (by kernel_rfl)) h1 bel lt1) (trodAll_cons_mk (Below.trod laidOut (by kernel_rfl) (of_decide_eq_true (by kernel_rfl)) h2 bel lt2) trodAll_mk0))), rfl, bel.frame _, fun h => by cases h⟩
theorem over : Rows.recordMixesRow.holds Try.pinned (OpenSpec.ofChange Rows.recordMixesSpec) :=
  OpenClaim.holds_of_wide 8 Try.f8 rfl rfl rfl rfl rfl rfl rfl ⟨rfl, rfl, rfl, rfl, rfl⟩ rfl rfl rfl rfl rfl (by kernel_rfl) Try.func8 (by kernel_rfl)
    (of_decide_eq_true (by kernel_rfl)) (by unfold Func.isWrapper; first | (rw [if_pos (by decide +kernel)]; kernel_rfl) | (rw [if_neg (by decide +kernel)]; exact ⟨rfl, rfl⟩))
    (fun os started H enc _ => lifted os started H enc)
theorem proved : Rows.RecordMixesSaid := over
end Go.Proofs.Ytompjoadhhjddaa.recordMixes
namespace Go.Proofs.Ytompjoadhhjddaa
/-- The row, under a short name, for the claim. -/
theorem recordMixes_holds : Rows.RecordMixesSaid := recordMixes.proved
end Go.Proofs.Ytompjoadhhjddaa
