/- TableTells: the law returns true for every input, and each argument reads behind the call as it read before. No further condition. -/
import Derived.Test.YtpmgmlbpbnefeaaRows
import Derived.Test.YtpmgmlbpbnefeaahLTableTells
import Derived.WalkKit
import Derived.ProofKit
import Derived.OpenShut
import Derived.ShutString
import Derived.ChangeOld
import Derived.Below
import Derived.SizedLaws
set_option linter.unusedSimpArgs false
set_option linter.unusedVariables false
set_option linter.constructorNameAsVariable false
namespace Go.Proofs.Ytpmgmlbpbnefeaa.tableTells
open Go.ChangeShapes Go.WideShapes Go.ChangeAt Go.RowKit Go.Vai
open Go.ChangeMaps (open_string shut_string)
set_option linter.unusedVariables false
theorem own : ownKnob Try.prog.godebug = none := by kernel_rfl
theorem laidOut : laidOutB Try.prog = true := by kernel_rfl
set_option maxRecDepth 100000 in
theorem lifted (os : Os) (started : os.Started) (H : Type) (enc : TypeId × Value → H) :
    ReturnsInHanded {} Try.checked os 3 .any (Rows.tableTellsSpec.pre6 enc Try.prog Try.f3 Rows.tableTellsRow.domain false) (Rows.tableTellsSpec.post enc Try.prog Try.f3 false true false false) := by
  refine returnsInHanded_of_change_sized (C := Try.checked) own started (by kernel_rfl) Try.func3
    (ChangeSpec.witness6 (enc := enc) (C := Try.checked) false ⟨#[], #[.slice none 0 0], []⟩ 8 (by kernel_rfl) (by kernel_rfl) (by kernel_rfl) (by kernel_rfl)) ?_
  intro W base args ds gs before hval0 hW hcnd hsz0 _
  have hval : ∀ (j : Nat) t v, Try.f3.params[j]? = some t → args[j]? = some v → Value.okWide Try.prog W .any base t v := hval0
  have hW2 := hW
  obtain ⟨p, q, hA0, hV, rfl, hfz, hnd⟩ := hW
  have hA : DataW.TrodAll enc Try.prog W 0 (fun _ => true) true Try.f3.params.toList args.toList ds p := hA0
  rw [Try.params3] at hA hval
  obtain ⟨v0, vs0, d0, ds0, p0, q0, hargs, rfl, rfl, h0, r0⟩ := trodAll_cons hA
  obtain ⟨rfl, rfl, rfl⟩ := trodAll_nil r0
  obtain rfl : args = #[v0] := by cases args; simp_all
  obtain ⟨rfl, rfl⟩ := trodVars_none hV
  obtain ⟨a0, ⟨nil0, xs0, e0, hn0, hl0, hx0⟩, R0⟩ := open_one (opens_slice (ag := true) Try.underlying22 (opens_struct Try.underlying36 (n := 8) (by kernel_rfl) (opensFs_cons (k := 0) (s := 1) rfl (by kernel_rfl) (opens_int Try.underlying3) (opensFs_cons (k := 1) (s := 1) rfl (by kernel_rfl) (opens_int Try.underlying3) (opensFs_cons (k := 2) (s := 1) rfl (by kernel_rfl) (opens_int Try.underlying3) (opensFs_cons (k := 3) (s := 1) rfl (by kernel_rfl) (opens_int Try.underlying3) (opensFs_cons (k := 4) (s := 1) rfl (by kernel_rfl) (opens_bool Try.underlying4) (opensFs_cons (k := 5) (s := 1) rfl (by kernel_rfl) (opens_bool Try.underlying4) (opensFs_cons (k := 6) (s := 1) rfl (by kernel_rfl) (opens_int Try.underlying3) (opensFs_cons (k := 7) (s := 1) rfl (by kernel_rfl) (opens_bool Try.underlying4) (opensFs_nil)))))))))) (sz := 8) (by kernel_rfl) (by decide) (by intro zs h; rfl)) Try.underlying22 rfl (hval 0 22 v0 rfl rfl) h0
  obtain rfl : a0 = .sl 8 nil0 xs0 := by simpa using e0
  obtain ⟨l0, el0, pl0⟩ := lift_list (f := T.nrA) (p := fun y => True) (xs := xs0) (fun x hx => by (obtain ⟨_, ⟨_, _, rfl, ⟨n0_e_0, rfl, w0_e_0⟩, ⟨_, _, rfl, ⟨n0_e_1, rfl, w0_e_1⟩, ⟨_, _, rfl, ⟨n0_e_2, rfl, w0_e_2⟩, ⟨_, _, rfl, ⟨n0_e_3, rfl, w0_e_3⟩, ⟨_, _, rfl, ⟨b0_e_4, rfl⟩, ⟨_, _, rfl, ⟨b0_e_5, rfl⟩, ⟨_, _, rfl, ⟨n0_e_6, rfl, w0_e_6⟩, ⟨_, _, rfl, ⟨b0_e_7, rfl⟩, rfl⟩⟩⟩⟩⟩⟩⟩⟩, rfl⟩ := hx0 x hx; exact ⟨⟨n0_e_0, n0_e_1, n0_e_2, n0_e_3, b0_e_4, b0_e_5, n0_e_6, b0_e_7⟩, rfl, trivial⟩))
  subst el0
  have hq0 := hl0
  rw [List.length_map] at hq0
  have hz0 : nil0 = true → l0 = [] := fun h => List.map_eq_nil_iff.1 (hn0 h)
  have lt0 : ∀ x ∈ p0, x.block < W.heap.size := by obtain ⟨m, hm⟩ := h0; exact DataW.trod_lt m _ _ _ hm
  clear hA0 hval0 hsz0
  have good := T.good_TableTells nil0 l0 (by have := hq0; unfold maxLen at this; omega)
  refine (calls_of_good (avs := [.sl 8 nil0 (l0.map T.nrA)]) (vs := [v0]) good rfl (fun j a v ha hv => ?_)).mono fun e W2 ⟨he, bel⟩ => ?_
  · match j, ha, hv with
    | 0, ha, hv => simp at ha hv; subst ha hv; exact R0
    | k + 1, ha, hv => simp at ha
  · subst he
    exact ⟨_, rfl, _, _, _, [], _, [], hW2, trodAll_mk1 (shut_bool Try.underlying4 _), (trodAll_cons_mk (Below.trod laidOut (by kernel_rfl) (of_decide_eq_true (by kernel_rfl)) h0 bel lt0) trodAll_mk0), rfl, bel.frame _, fun h => by cases h⟩
theorem over : Rows.tableTellsRow.holds Try.pinned (OpenSpec.ofChange Rows.tableTellsSpec) :=
  OpenClaim.holds_of_wide 3 Try.f3 rfl rfl rfl rfl rfl rfl rfl ⟨rfl, rfl, rfl, rfl, rfl⟩ rfl rfl rfl rfl rfl (by kernel_rfl) Try.func3 (by kernel_rfl)
    (of_decide_eq_true (by kernel_rfl)) (by unfold Func.isWrapper; first | (rw [if_pos (by decide +kernel)]; kernel_rfl) | (rw [if_neg (by decide +kernel)]; exact ⟨rfl, rfl⟩))
    (fun os started H enc _ => lifted os started H enc)
theorem proved : Rows.TableTellsSaid := over
end Go.Proofs.Ytpmgmlbpbnefeaa.tableTells
namespace Go.Proofs.Ytpmgmlbpbnefeaa
/-- The row, under a short name, for the claim. -/
theorem tableTells_holds : Rows.TableTellsSaid := tableTells.proved
end Go.Proofs.Ytpmgmlbpbnefeaa
