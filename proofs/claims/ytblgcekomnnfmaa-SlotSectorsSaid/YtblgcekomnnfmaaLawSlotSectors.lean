/- SlotSectors: the law returns true for every input, and each argument reads behind the call as it read before. No further condition. -/
import Derived.Test.YtblgcekomnnfmaaRows
import Derived.Test.YtblgcekomnnfmaagLSlotSectors
import Derived.WalkKit
import Derived.ProofKit
import Derived.OpenShut
import Derived.ShutString
import Derived.ChangeOld
import Derived.Below
import Derived.SizedLaws
set_option linter.unusedSimpArgs false
set_option linter.unusedVariables false
set_option linter.constructorNameAsVariable false
namespace Go.Proofs.Ytblgcekomnnfmaa.slotSectors
open Go.ChangeShapes Go.WideShapes Go.ChangeAt Go.RowKit Go.Vai
open Go.ChangeMaps (open_string shut_string)
set_option linter.unusedVariables false
theorem own : ownKnob Try.prog.godebug = none := by kernel_rfl
theorem laidOut : laidOutB Try.prog = true := by kernel_rfl
set_option maxRecDepth 100000 in
theorem lifted (os : Os) (started : os.Started) (H : Type) (enc : TypeId × Value → H) :
    ReturnsInHanded {} Try.checked os 5 .any (Rows.slotSectorsSpec.pre6 enc Try.prog Try.f5 Rows.slotSectorsRow.domain false) (Rows.slotSectorsSpec.post enc Try.prog Try.f5 false true false false) := by
  refine returnsInHanded_of_change_sized (C := Try.checked) own started (by kernel_rfl) Try.func5
    (ChangeSpec.witness6 (enc := enc) (C := Try.checked) false ⟨#[], #[.agg #[.int .i64 0, .slice none 0 0], .agg #[.int .i64 0, .int .i64 0], .slice none 0 0], []⟩ 8 (by kernel_rfl) (by kernel_rfl) (by kernel_rfl) (by kernel_rfl)) ?_
  intro W base args ds gs before hval0 hW hcnd hsz0 _
  have hval : ∀ (j : Nat) t v, Try.f5.params[j]? = some t → args[j]? = some v → Value.okWide Try.prog W .any base t v := hval0
  have hW2 := hW
  obtain ⟨p, q, hA0, hV, rfl, hfz, hnd⟩ := hW
  have hA : DataW.TrodAll enc Try.prog W 0 (fun _ => true) true Try.f5.params.toList args.toList ds p := hA0
  rw [Try.params5] at hA hval
  obtain ⟨v0, vs0, d0, ds0, p0, q0, hargs, rfl, rfl, h0, r0⟩ := trodAll_cons hA
  obtain ⟨v1, vs1, d1, ds1, p1, q1, rfl, rfl, rfl, h1, r1⟩ := trodAll_cons r0
  obtain ⟨v2, vs2, d2, ds2, p2, q2, rfl, rfl, rfl, h2, r2⟩ := trodAll_cons r1
  obtain ⟨rfl, rfl, rfl⟩ := trodAll_nil r2
  obtain rfl : args = #[v0, v1, v2] := by cases args; simp_all
  obtain ⟨rfl, rfl⟩ := trodVars_none hV
  obtain ⟨_, ⟨_, _, rfl, ⟨n0_0, rfl, w0_0⟩, ⟨_, _, rfl, ⟨nil0_1, l0_1, rfl, hl0_1, hz0_1⟩, rfl⟩⟩, R0⟩ := open_agg (opens_struct Try.underlying45 (n := 2) (by kernel_rfl) (opensFs_cons (k := 0) (s := 1) rfl (by kernel_rfl) (opens_int Try.underlying3) (opensFs_cons (k := 1) (s := 1) rfl (by kernel_rfl) (opens_bytes2 Try.underlying22 Try.underlying5 (by kernel_rfl)) (opensFs_nil)))) Try.underlying45 rfl (hval 0 45 v0 rfl rfl) h0
  replace R0 : R (gh0 W) W (.agg [.i .i64 n0_0, .sl 1 nil0_1 (bsl l0_1)]) v0 := R0
  obtain ⟨_, ⟨ls1, rfl, hn1, ha1⟩, R1⟩ := open_agg (opens_array (s := 1) Try.underlying46 (by kernel_rfl) (by kernel_rfl) (opens_int Try.underlying3)) Try.underlying46 rfl (hval 1 46 v1 rfl rfl) h1
  obtain ⟨x1_0, x1_1, rfl⟩ : ∃ x1_0 x1_1, ls1 = [x1_0, x1_1] := by match ls1, hn1 with | [x1_0, x1_1], _ => exact ⟨x1_0, x1_1, rfl⟩
  obtain ⟨n1_0, rfl, w1_0⟩ := ha1 x1_0 (by simp)
  obtain ⟨n1_1, rfl, w1_1⟩ := ha1 x1_1 (by simp)
  replace R1 : R (gh0 W) W (.agg [.i .i64 n1_0, .i .i64 n1_1]) v1 := R1
  obtain ⟨a2, ⟨nil2, xs2, e2, hn2, hl2, hx2⟩, R2⟩ := open_one (opens_slice (ag := false) Try.underlying47 (opens_bytes2 Try.underlying22 Try.underlying5 (by kernel_rfl)) (sz := 1) (by kernel_rfl) (by decide) (by rintro zs ⟨nil2_e, l2_e, rfl, hl2_e, hz2_e⟩; rfl)) Try.underlying47 rfl (hval 2 47 v2 rfl rfl) h2
  obtain rfl : a2 = .sl 1 nil2 xs2 := by simpa using e2
  obtain ⟨l2, el2, pl2⟩ := lift_list (f := U.pslice) (p := fun y => y.2.length ≤ maxLen ∧ (y.1 = true → y.2 = [])) (xs := xs2) (fun x hx => by (obtain ⟨_, ⟨nil2_e, l2_e, rfl, hl2_e, hz2_e⟩, rfl⟩ := hx2 x hx; exact ⟨⟨nil2_e, l2_e⟩, rfl, ⟨hl2_e, hz2_e⟩⟩))
  subst el2
  have hq2 := hl2
  rw [List.length_map] at hq2
  have hz2 : nil2 = true → l2 = [] := fun h => List.map_eq_nil_iff.1 (hn2 h)
  have lt0 : ∀ x ∈ p0, x.block < W.heap.size := by obtain ⟨m, hm⟩ := h0; exact DataW.trod_lt m _ _ _ hm
  have lt1 : ∀ x ∈ p1, x.block < W.heap.size := by obtain ⟨m, hm⟩ := h1; exact DataW.trod_lt m _ _ _ hm
  have lt2 : ∀ x ∈ p2, x.block < W.heap.size := by obtain ⟨m, hm⟩ := h2; exact DataW.trod_lt m _ _ _ hm
  clear hA0 hval0 hsz0
  have good := S7.good_SlotSectors n0_0 nil0_1 l0_1 (by have := hl0_1; unfold maxLen at this; omega) hz0_1 n1_0 n1_1 nil2 l2 (by have := hq2; unfold maxLen at this; omega) (fun z hz => ⟨(by have := (pl2 z hz).1; unfold maxLen at this; omega), (pl2 z hz).2⟩)
  refine (calls_of_good (avs := [.agg [.i .i64 n0_0, .sl 1 nil0_1 (bsl l0_1)], .agg [.i .i64 n1_0, .i .i64 n1_1], .sl 1 nil2 (l2.map U.pslice)]) (vs := [v0, v1, v2]) good rfl (fun j a v ha hv => ?_)).mono fun e W2 ⟨he, bel⟩ => ?_
  · match j, ha, hv with
    | 0, ha, hv => simp at ha hv; subst ha hv; exact R0
    | 1, ha, hv => simp at ha hv; subst ha hv; exact R1
    | 2, ha, hv => simp at ha hv; subst ha hv; exact R2
    | k + 3, ha, hv => simp at ha
  · subst he
    exact ⟨_, rfl, _, _, _, [], _, [], hW2, trodAll_mk1 (shut_bool Try.underlying4 _), (trodAll_cons_mk (Below.trod laidOut (by kernel_rfl) (of_decide_eq_true (by kernel_rfl)) h0 bel lt0) (trodAll_cons_mk (Below.trod laidOut (by kernel_rfl) (of_decide_eq_true (by kernel_rfl)) h1 bel lt1) (trodAll_cons_mk (Below.trod laidOut (by kernel_rfl) (of_decide_eq_true (by kernel_rfl)) h2 bel lt2) trodAll_mk0))), rfl, bel.frame _, fun h => by cases h⟩
theorem over : Rows.slotSectorsRow.holds Try.pinned (OpenSpec.ofChange Rows.slotSectorsSpec) :=
  OpenClaim.holds_of_wide 5 Try.f5 rfl rfl rfl rfl rfl rfl rfl ⟨rfl, rfl, rfl, rfl, rfl⟩ rfl rfl rfl rfl rfl (by kernel_rfl) Try.func5 (by kernel_rfl)
    (of_decide_eq_true (by kernel_rfl)) (by unfold Func.isWrapper; first | (rw [if_pos (by decide +kernel)]; kernel_rfl) | (rw [if_neg (by decide +kernel)]; exact ⟨rfl, rfl⟩))
    (fun os started H enc _ => lifted os started H enc)
theorem proved : Rows.SlotSectorsSaid := over
end Go.Proofs.Ytblgcekomnnfmaa.slotSectors
namespace Go.Proofs.Ytblgcekomnnfmaa
/-- The row, under a short name, for the claim. -/
theorem slotSectors_holds : Rows.SlotSectorsSaid := slotSectors.proved
end Go.Proofs.Ytblgcekomnnfmaa
